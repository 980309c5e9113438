import PyProof.Rows.All
import Wide.All
import OpenK.AllK
import Wide.FinOn
import HandS.ForMost
import HandS.TupAny
import HandS.TupMul
import HandS.Wide
import HandS.WideBits
import KE.KDictKeyed
import KE.KeyNested
import HandS.TupLe
import HandS.IsInst
import HandS.Deep
import HandS.SortInts
import HandS.NoneIn
import HandS.Walk
import HandS.Zip
import KE.GoesEnum
import KE.KTupSum
import PyProof.MinMaxWalk
import KE.KEqSeq
import HandS.Conv
import HandS.Style
import PyProof.Rows.SortShell
import PyProof.SeqIndex
import HandS.More
import PyProof.EqAt
import KE.KIntText
import KE.GoesZip
import KE.KDictZip
import KE.LtSeq
import KE.KSortTup
import HandS.SortRule
import HandS.ExcValue
import PyProof.ListNew
import HandS.SetFor
import PyProof.ReprLen
import HandS.Iter
import HandS.Dict
import KE.DataMinMax
import KE.KDictWalk
import KE.KDictPairs
import PyProof.Rows.SeqRoads
import PyProof.Rows.SeqItemCall
import KE.KDictSum
import KE.KDictItemsList
import PyProof.DictItems
import KE.KDictCopyH
import KE.KEqDict
import KE.KDictDisplayH
import KE.DataCmp
import HandS.WordsDict
import PyProof.DictUpdate
import KE.BitLaws
import PySem.Challenge.RW_stairlanes_k13_whole_orders_of_balls
set_option Elab.async false
set_option linter.all false
set_option maxRecDepth 100000
set_option autoImplicit false
set_option maxHeartbeats 4000000
set_option exponentiation.threshold 20000
namespace Sim
open PySem PySem.Spec L2
open AutoSeq1 (wpAny_loadPart')
def SqD (K : PySem.W.Frag) (H : Hp) (a : Addr) (xs : List V) : Prop :=
  (∃ o : Obj, H a = some (.frz o (.tup xs)) ∧ o.dict = none) ∨
    ∃ (o : Obj) (its : Array Value) (n : Nat), K.lookup a = some o ∧ o.cls = .type "tuple" ∧ o.dict = none ∧ o.data = .seq its n ∧ its.size ≤ sizeLine ∧ Vals xs its.toList
theorem SqD.sq {K : PySem.W.Frag} {H : Hp} {a : Addr} {xs : List V} (h : SqD K H a xs) : SqT K H a xs := by
  rcases h with ⟨o, h, _⟩ | ⟨o, its, n, h1, h2, _, h3, h4, h5⟩
  · exact .inl (.inr ⟨o, h⟩)
  · exact .inr ⟨o, its, n, h1, h2, h3, h4, h5⟩
theorem SqD.of {K : PySem.W.Frag} {H : Hp} {a : Addr} {o : Obj} {xs : List V} (h : H a = some (.frz o (.tup xs))) (n : o.dict = none) : SqD K H a xs := .inl ⟨o, h, n⟩
/-- a new tuple -/
def rNewT (xs : List V) (H : Hp) (Q : VK) : Prop := ∀ p o, H p = none → o.dict = none → Q (.ref p) (upd H p (.frz o (.tup xs)))
section
variable {X : Cx} {pins : List (Addr × Obj)} {σ : St} {H : Hp} {s : Shared} {xs : List V} {its : List Value} {Q : VK}
theorem lay_tup {t' : Nat} (I : Inv X pins σ H s) (r : Vals xs its) (z : xs.length ≤ sizeLine) (q : rNewT xs H Q) :
    EP X pins σ Q (.ref s.heap.objs.size) { s with heap := s.heap.push { cls := .type "tuple", data := .seq its.toArray }, toks := t' } := by
  have e : (s.heap.push { cls := .type "tuple", data := .seq its.toArray }).get? s.heap.objs.size = some { cls := .type "tuple", data := .seq its.toArray } := Heap.get?_push_size _ rfl
  refine ⟨.ref s.heap.objs.size, _, I.laid (t' := t') (o := .frz { cls := .type "tuple", data := .seq its.toArray } (.tup xs)) (fun b ob q => Heap.get?_push_of_some _ q) (Nat.le_refl _) ⟨e, z, its, r, ⟨_, e, rfl, _, rfl⟩⟩, rfl, q _ _ (I.hok.fresh (Nat.le_refl _)) rfl⟩
def tTupD (t : TA) : TE := fun σ H Q => t σ H fun xs H1 => xs.length ≤ sizeLine ∧ rNewT xs H1 Q
theorem pe_tupD {es : List Expr} {t : TA} {pos : Pos} {x1 : Nat} (h : PA X es t) : PE X (.Tuple es x1 pos) (tTupD t) := by
  refine ⟨fun pins s σ H Q I hq => ?_⟩
  exact wpAny_Tuple_spliced (thn (h.run pos pins s σ H _ I hq) fun us s1 ⟨xs, H1, I1, r, z, q⟩ => ⟨by rw [← r.length]; exact z, lay_tup (t' := s1.toks) I1 r z q⟩)
theorem call_tuple_ofD : CallR X (.type "tuple") (fun xs H Q => ∃ p ys, xs = [.ref p] ∧ ((SqL X.K H p ys ∧ rNewT ys H Q) ∨ (SqT X.K H p ys ∧ Q (.ref p) H))) := by
  intro pins s σ H xs us Q I r h
  obtain ⟨p, ys, rfl, h⟩ := h
  obtain ⟨u, rfl, rx⟩ := vals1 r
  cases rx
  rcases h with ⟨hq, q⟩ | ⟨hq, q⟩
  · obtain ⟨its, r', pl, hz⟩ := I.list hq
    have hlen := r'.length
    refine call_tuple_list pl.isList (fun h' kp => ?_) (by simp only [List.size_toArray] <;> omega)
    have I1 : Inv X pins σ H { s with heap := h' } := I.kept (t' := s.toks) kp
    exact lay_tup (t' := s.toks) I1 r' hz q
  · obtain ⟨its, r', pl, hz⟩ := I.tuple hq
    exact call_tuple_same pl ⟨.ref p, H, I, rfl, q⟩
def rCatD (K : PySem.W.Frag) : R2 := fun x y H Q => ∃ a b xs ys, x = .ref a ∧ y = .ref b ∧ SqT K H a xs ∧ SqT K H b ys ∧ xs.length + ys.length ≤ sizeLine ∧
  (xs = [] → Q (.ref b) H) ∧ (xs ≠ [] → ys = [] → Q (.ref a) H) ∧ (xs ≠ [] → ys ≠ [] → rNewT (xs ++ ys) H Q)
theorem op_catD : OpR X (binaryOp .Add) (rCatD X.K) := by
  intro pins s σ H x y v u Q I rx ry h
  obtain ⟨a, b, xs, ys, rfl, rfl, ha, hb, hz, q0, q1, q2⟩ := h
  cases rx
  cases ry
  obtain ⟨its, r1, p1, _⟩ := I.tuple ha
  obtain ⟨its2, r2, p2, _⟩ := I.tuple hb
  by_cases hx : xs = []
  · subst hx
    cases r1
    exact cat_tup0 p1 p2 ⟨.ref b, H, I, rfl, q0 rfl⟩
  · refine HT.cat_tup p1 p2 (fun z => hx (r1.nil_iff.mp z)) (fun z => ⟨.ref a, H, I, rfl, q1 hx (r2.nil_iff.mp z)⟩) (fun z => ?_) (by rw [← r1.length, ← r2.length]; exact hz)
    exact lay_tup (t' := s.toks) I (r1.append r2) (by rw [List.length_append]; exact hz) (q2 hx fun w => z (r2.nil_iff.mpr w))
theorem tuple_mulS (l : Addr) (items : Array Value) (n : Nat) (dd : Option Addr) (sl : Array (Option Value)) (x : Int) (u : Tok) (c0 : (decide (x < -(2 ^ 63)) || decide (x ≥ 2 ^ 63)) = false) (c1 : (items.isEmpty || x == 1) = true) :
    Meets (Builtin.«tuple.__mul__» ⟨[.ref l, .int x u], []⟩) (fun _ R s => s.heap.get? l = some { cls := .type "tuple", dict := dd, data := .seq items n, slots := sl } ∧ R (.ok (.ret (Value.ref l))) s) :=
  .of_wp fun prog w A R s h => by
    obtain ⟨hp, g, d, tk, os⟩ := s
    obtain ⟨hl, h⟩ := h
    have f1 := AutoSeq1.idx_int
    wp_walk using wpAny_loadPart' hl
    repeat (first
      | (refine wpAny_ite_false (decide_eq_false (by rw [c0]; exact Bool.false_ne_true)) ?_; wp_walk using wpAny_loadPart' hl)
      | (refine wpAny_ite_true (decide_eq_true (by rw [c1])) ?_; wp_walk using wpAny_loadPart' hl))
    exact ⟨_, rfl, h⟩
theorem tuple_mul0 (l : Addr) (items : Array Value) (n : Nat) (dd : Option Addr) (sl : Array (Option Value)) (x : Int) (u : Tok) (c0 : (decide (x < -(2 ^ 63)) || decide (x ≥ 2 ^ 63)) = false) (c1 : (items.isEmpty || x == 1) = false) (c2 : (decide (x ≤ 0) || items.isEmpty) = true) :
    Meets (Builtin.«tuple.__mul__» ⟨[.ref l, .int x u], []⟩) (fun _ R s => s.heap.get? l = some { cls := .type "tuple", dict := dd, data := .seq items n, slots := sl } ∧
      R (.ok (.ret (Value.ref s.heap.objs.size))) { s with heap := s.heap.push { cls := Value.type "tuple", data := Data.seq #[] }, toks := s.toks }) :=
  .of_wp fun prog w A R s h => by
    obtain ⟨hp, g, d, tk, os⟩ := s
    obtain ⟨hl, h⟩ := h
    have f1 := AutoSeq1.idx_int
    wp_walk using wpAny_loadPart' hl
    repeat (first
      | (refine wpAny_ite_false (decide_eq_false (by rw [c0]; exact Bool.false_ne_true)) ?_; wp_walk using wpAny_loadPart' hl)
      | (refine wpAny_ite_false (decide_eq_false (by rw [c1]; exact Bool.false_ne_true)) ?_; wp_walk using wpAny_loadPart' hl)
      | (refine wpAny_ite_true (decide_eq_true (by rw [c2])) ?_; wp_walk using wpAny_loadPart' hl)
      | (refine wpAny_ite_false (decide_eq_false (by decide)) ?_; wp_walk using wpAny_loadPart' hl))
    exact ⟨_, rfl, h⟩
def rRepD (K : PySem.W.Frag) : R2 := fun x y H Q => ∃ l k xs, x = .ref l ∧ y = .int k ∧ SqT K H l xs ∧ -1000 ≤ k ∧ k ≤ 1000 ∧ xs.length ≤ 1000 ∧
  (xs = [] ∨ k = 1 → Q (.ref l) H) ∧ (xs ≠ [] → k ≠ 1 → rNewT (List.replicate k.toNat xs).flatten H Q)
theorem op_repD : OpR X (binaryOp .Mult) (rRepD X.K) := by
  intro pins s σ H x y v u Q I rx ry h
  obtain ⟨l, k, xs, rfl, rfl, hT, h1, h2, hz, q1, q2⟩ := h
  cases rx
  obtain ⟨t, rfl⟩ := ry
  obtain ⟨its, r, ⟨⟨cls, dd, data, sl⟩, ho, hc, n, hd⟩, hs⟩ := I.tuple hT
  simp only at hc hd
  subst hc hd
  have hle : its.length = xs.length := r.length.symm
  have hsz0 : its.toArray.size = xs.length := by rw [List.size_toArray, hle]
  have hm : ((its.toArray.size : Nat) : Int) * k ≤ 1000000 := by
    rw [hsz0]
    rcases Int.lt_or_le k 0 with hk | hk
    · have : ((xs.length : Nat) : Int) * k ≤ 0 := Int.mul_nonpos_of_nonneg_of_nonpos (by omega) (by omega)
      omega
    · have a1 : ((xs.length : Nat) : Int) * k ≤ 1000 * k := Int.mul_le_mul_of_nonneg_right (by omega) (by omega)
      omega
  have flen : (List.replicate k.toNat its).flatten.length ≤ 1000000 := by
    rw [PyProof.Rows.lm_len_rep_flat, hle]
    have a1 : k.toNat * xs.length ≤ 1000 * 1000 := Nat.mul_le_mul (by omega) hz
    omega
  have flen2 : (List.replicate k.toNat xs).flatten.length ≤ sizeLine := by
    rw [PyProof.Rows.lm_len_rep_flat, sizeLine_eq]
    have a1 : k.toNat * xs.length ≤ 1000 * 1000 := Nat.mul_le_mul (by omega) hz
    omega
  have c0 : (decide (k < -(2 ^ 63)) || decide (k ≥ 2 ^ 63)) = false := by
    rw [decide_eq_false (by omega), decide_eq_false (by omega)] <;> rfl
  have go : ∀ {Q' : Value → Shared → Prop}, wpAny (model X.prog X.w) (X.A) (call (.builtin "tuple.__mul__") [.ref l, .int k t]) Q' X.xe s → wpAny (model X.prog X.w) X.A (binaryOp .Mult (.ref l) (.int k t)) Q' X.xe s := fun {Q'} z =>
    wpAny_binaryOp_repeat_ref (T := "tuple") (U := "int") (by decide) ⟨_, ho, rfl⟩ (fun s' => typeIs_int s' k t) noFill_tuple_mul F.fills_int_mul F.slot_int_rmul repeat_tuple F.slot_int_index.lookup
      (call_meets F.slot_int_rmul (typeIs_int s k t) F.entry_int_rmul (F.args_int_rmul_2 _ _) (int_rmul_tuple k t l its.toArray n dd sl) ⟨ho, rfl, ⟨_, ho, rfl⟩, z⟩)
  refine go ?_
  cases c1 : (its.toArray.isEmpty || k == 1) with
  | true =>
    refine call_meets F.slot_tuple_mul ⟨_, ho, rfl⟩ F.entry_tuple_mul (F.args_tuple_mul_2 _ _) (tuple_mulS l its.toArray n dd sl k t c0 c1) ⟨ho, .ref l, H, I, rfl, q1 ?_⟩
    rw [Bool.or_eq_true] at c1
    rcases c1 with z | z
    · left
      have : its.length = 0 := by
        cases its with
        | nil => rfl
        | cons a b => simp at z
      exact List.eq_nil_of_length_eq_zero (by omega)
    · right
      exact eq_of_beq z
  | false =>
    have c1' := c1
    rw [Bool.or_eq_false_iff] at c1'
    have hne : xs ≠ [] := fun e => by
      subst e
      cases r
      simp at c1'
    have hk1 : k ≠ 1 := fun e => by rw [e] at c1'; simp at c1'
    cases c2 : (decide (k ≤ 0) || its.toArray.isEmpty) with
    | true =>
      refine call_meets F.slot_tuple_mul ⟨_, ho, rfl⟩ F.entry_tuple_mul (F.args_tuple_mul_2 _ _) (tuple_mul0 l its.toArray n dd sl k t c0 c1 c2) ⟨ho, ?_⟩
      rw [c1'.1, Bool.or_false] at c2
      have hk : k.toNat = 0 := by have := of_decide_eq_true c2; omega
      have e0 : (List.replicate k.toNat xs).flatten = [] := by rw [hk]; rfl
      have q3 := q2 hne hk1
      rw [e0] at q3
      exact lay_tup (t' := s.toks) I (its := []) .nil (Nat.zero_le _) q3
    | false =>
      have c4 : Builtin.Tuple.tupleTooMany (((its.toArray.size : Nat) : Int) * k) = false := by
        unfold Builtin.Tuple.tupleTooMany
        rw [sizeLine_eq]
        exact decide_eq_false (by omega)
      refine call_meets F.slot_tuple_mul ⟨_, ho, rfl⟩ F.entry_tuple_mul (F.args_tuple_mul_2 _ _) (tuple_mulW l its.toArray n dd sl k t c0 c1 c2 (by omega) c4 (by rw [size_rep, List.size_toArray, sizeLine_eq]; omega)) ⟨ho, ?_⟩
      rw [size_rep]
      exact lay_tup (t' := s.toks) I (r.rep k.toNat) flen2 (q2 hne hk1)
end
end Sim
namespace Sim
open PySem PySem.Spec L2
abbrev D := PyData
abbrev Sg := List (Option D)
/-- an outcome -/
inductive Res (α : Type) where
  | ok (a : α) (s : Sg)
  | exc (c : Str) (v : D) (s : Sg)
  | bad
def Res.bind {α β : Type} (m : Res α) (k : α → Sg → Res β) : Res β :=
  match m with
  | .ok a s => k a s
  | .exc c v s => .exc c v s
  | .bad => .bad
theorem bind_ok {α β : Type} (a : α) (s : Sg) (k : α → Sg → Res β) : (Res.ok a s).bind k = k a s := rfl
theorem bind_inv {α β : Type} {m : Res α} {k : α → Sg → Res β} {b : β} {s : Sg} (h : m.bind k = .ok b s) : ∃ a s1, m = .ok a s1 ∧ k a s1 = .ok b s := by
  cases m with
  | ok a s1 => exact ⟨a, s1, rfl, h⟩
  | exc c v s1 => cases h
  | bad => cases h
/-- an operand: a value, or what a slot holds -/
inductive Rf where
  | val (d : D)
  | slot (i : Nat)
def rd (r : Rf) (s : Sg) : Option D :=
  match r with
  | .val d => some d
  | .slot i => (s[i]?).join
def rds : List Rf → Sg → Option (List D)
  | [], _ => some []
  | r :: rs, s => match rd r s with
    | none => none
    | some d => match rds rs s with
      | none => none
      | some ds => some (d :: ds)
abbrev O := Sg → Res Rf
abbrev AL := Sg → Res (List Rf)
abbrev T := Sg → Res Bool
inductive Fl where
  | nx | rt (d : D) | bk | ct
abbrev S := Sg → Res Fl
/-- a list that never changes is told so -/
def frzT : List (D × D) → Bool
  | [(.none, .list _)] => true
  | [(.none, .dict _)] => true
  | _ => false
mutual
/-- no list that may change, no object within -/
def pur : D → Bool
  | .list _ => false
  | .dict kvs => frzT kvs
  | .tuple xs => purs xs
  | .none => true
  | .bool _ => true
  | .int _ => true
  | .str _ => true
def purs : List D → Bool
  | [] => true
  | x :: xs => pur x && purs xs
end
mutual
/-- nothing told by a dict within -/
def noD : D → Bool
  | .list xs => noDs xs
  | .dict _ => false
  | .tuple xs => noDs xs
  | .none => true
  | .bool _ => true
  | .int _ => true
  | .str _ => true
def noDs : List D → Bool
  | [] => true
  | x :: xs => noD x && noDs xs
end
/-- a list that never changes -/
def SqF (K : PySem.W.Frag) (H : Hp) (a : Addr) (xs : List V) : Prop :=
  (∃ o, H a = some (.frz o (.lst xs))) ∨
    ∃ (o : Obj) (its : Array Value) (n : Nat), K.lookup a = some o ∧ o.cls = .type "list" ∧ o.dict = none ∧ o.data = .seq its n ∧ its.size ≤ sizeLine ∧ Vals xs its.toList
theorem SqF.sq {K : PySem.W.Frag} {H : Hp} {a : Addr} {xs : List V} (h : SqF K H a xs) : SqL K H a xs := by
  rcases h with h | h
  · exact .inl (.inr h)
  · exact .inr h
/-- the entries of a dict whose keys are tuples, as they stand in its object -/
def RawO (a : Addr) (es : List (NestedKey × Addr × V)) (o : Obj) : HO := .ext fun h => es.length ≤ sizeLine ∧ (a == sysModules) = false ∧ (es.map (·.1)).Nodup ∧ h.get? a = some o ∧
  ∃ (ents : Array DictEntry) (ep : Nat), o.ExactDict ∧ o.data = .dict ents ep ∧
    Paired (fun (p : NestedKey × Addr × V) (e : DictEntry) => (∀ w, e.hash = p.1.hash w) ∧ e.key = .ref p.2.1 ∧ RelV p.2.2 e.val) es ents.toList
/-- an object that may change: a list, a dict, an instance -/
inductive MO
  | lst (xs : List V)
  | dct (kvs : List (Key × V))
  | dcn (a : Addr) (es : List (NestedKey × Addr × V)) (o : Obj)
  | ins (C dx : Addr) (fs : List (Str × V))
def MO.ho : MO → HO
  | .lst xs => .lst xs
  | .dct kvs => .dK kvs
  | .dcn a es o => RawO a es o
  | .ins C dx fs => .ins C dx fs
def isMut : HO → Bool
  | .lst _ => true
  | .dK _ => true
  | .ins _ _ _ => true
  | .ext _ => true
  | _ => false
/-- a key as it is told -/
def kD : Key → D
  | .inl i => .int i
  | .inr x => .str x
mutual
def nkD : NestedKey → D
  | .none => .none
  | .num i => .int i
  | .text x => .str x
  | .tup ks => .tuple (nkDs ks)
def nkDs : List NestedKey → List D
  | [] => []
  | k :: ks => nkD k :: nkDs ks
end
def zkd {κ : Type} (f : κ → D) : List κ → List D → List (D × D)
  | k :: ks, d :: ds => (f k, d) :: zkd f ks ds
  | _, _ => []
mutual
inductive Own (K : PySem.W.Frag) (H : Hp) : D → V → List Addr → Prop
  | non : Own K H .none .non []
  | bl (b : Bool) : Own K H (.bool b) (.bl b) []
  | int (i : Int) : Own K H (.int i) (.int i) []
  | str (x : Str) : Own K H (.str x) (.str x) []
  | tup {a : Addr} {xs : List V} {ds : List D} {F : List Addr} : SqD K H a xs → OwnA K H ds xs F → Own K H (.tuple ds) (.ref a) F
  | frz {a : Addr} {xs : List V} {ds : List D} : SqF K H a xs → OwnA K H ds xs [] → Own K H (.dict [(.none, .list ds)]) (.ref a) []
  | frd {a : Addr} {o : Obj} : H a = some (.frz o (.dK [])) → Own K H (.dict [(.none, .dict [])]) (.ref a) []
  | dct {a : Addr} {kvs : List (Key × V)} {ds : List D} {F : List Addr} : H a = some (.dK kvs) → OwnA K H ds (kvs.map Prod.snd) F → a ∉ F → Own K H (.dict ((.bool true, .none) :: zkd kD (kvs.map Prod.fst) ds)) (.ref a) (a :: F)
  | dcn {a : Addr} {es : List (NestedKey × Addr × V)} {o : Obj} {ds : List D} : H a = some (RawO a es o) → OwnA K H (es.map fun e => nkD e.1) (es.map fun e => V.ref e.2.1) [] → OwnA K H ds (es.map fun e => e.2.2) [] → Own K H (.dict ((.bool true, .int 0) :: zkd nkD (es.map fun e => e.1) ds)) (.ref a) [a]
  | ins {a C dx : Addr} {fs : List (Str × V)} {ds : List D} {F : List Addr} : H a = some (.ins C dx fs) → OwnA K H ds (fs.map Prod.snd) F → a ∉ F → Own K H (.dict ((.bool false, .int (C : Nat)) :: zkd PyData.str (fs.map Prod.fst) ds)) (.ref a) (a :: F)
  | lst {a : Addr} {xs : List V} {ds : List D} {F : List Addr} : H a = some (.lst xs) → OwnA K H ds xs F → a ∉ F → Own K H (.list ds) (.ref a) (a :: F)
inductive OwnA (K : PySem.W.Frag) (H : Hp) : List D → List V → List Addr → Prop
  | nil : OwnA K H [] [] []
  | cons {v : V} {vs : List V} {d : D} {ds : List D} {F G : List Addr} : Own K H d v F → OwnA K H ds vs G → (∀ a, a ∈ F → a ∉ G) → OwnA K H (d :: ds) (v :: vs) (F ++ G)
end
section
variable {K : PySem.W.Frag} {H H' : Hp}
mutual
theorem Own.dp : ∀ {d : D} {v : V} {F : List Addr}, Own K H d v F → noD d = true → Dp K H v d
  | _, _, _, .non, _ => .non
  | _, _, _, .bl b, _ => .bl b
  | _, _, _, .int b, _ => .int b
  | _, _, _, .str b, _ => .str b
  | _, _, _, .frz _ _, p => by simp [noD] at p
  | _, _, _, .frd _, p => by simp [noD] at p
  | _, _, _, .dct _ _ _, p => by simp [noD] at p
  | _, _, _, .dcn _ _ _, p => by simp [noD] at p
  | _, _, _, .ins _ _ _, p => by simp [noD] at p
  | _, _, _, .lst h t _, p => .lst (SqL.of h) (OwnA.dp t (by simpa [noD] using p))
  | _, _, _, .tup h t, p => .tup h.sq (OwnA.dp t (by simpa [noD] using p))
theorem OwnA.dp : ∀ {ds : List D} {vs : List V} {F : List Addr}, OwnA K H ds vs F → noDs ds = true → DpAll K H vs ds
  | _, _, _, .nil, _ => .nil
  | _, _, _, .cons h t _, p => by
    simp only [noDs, Bool.and_eq_true] at p
    exact .cons (Own.dp h p.1) (OwnA.dp t p.2)
end
mutual
theorem Own.pur : ∀ {d : D} {v : V} {F : List Addr}, Own K H d v F → pur d = true → F = []
  | _, _, _, .non, _ => rfl
  | _, _, _, .bl b, _ => rfl
  | _, _, _, .int b, _ => rfl
  | _, _, _, .str b, _ => rfl
  | _, _, _, .lst _ _ _, p => by simp [Sim.pur] at p
  | _, _, _, .frz _ _, _ => rfl
  | _, _, _, .frd _, _ => rfl
  | _, _, _, .dct _ _ _, p => by simp [Sim.pur, frzT] at p
  | _, _, _, .dcn _ _ _, p => by simp [Sim.pur, frzT] at p
  | _, _, _, .ins _ _ _, p => by simp [Sim.pur, frzT] at p
  | _, _, _, .tup h t, p => OwnA.pur t (by simpa [Sim.pur] using p)
theorem OwnA.pur : ∀ {ds : List D} {vs : List V} {F : List Addr}, OwnA K H ds vs F → purs ds = true → F = []
  | _, _, _, .nil, _ => rfl
  | _, _, _, .cons h t _, p => by
    simp only [purs, Bool.and_eq_true] at p
    rw [Own.pur h p.1, OwnA.pur t p.2]
    rfl
end
mutual
theorem Own.mem : ∀ {d : D} {v : V} {F : List Addr}, Own K H d v F → ∀ a, a ∈ F → ∃ xs : MO, H a = some xs.ho
  | _, _, _, .non, _, h => by simp at h
  | _, _, _, .bl b, _, h => by simp at h
  | _, _, _, .int b, _, h => by simp at h
  | _, _, _, .str b, _, h => by simp at h
  | _, _, _, .frz _ _, _, h => by simp at h
  | _, _, _, .frd _, _, h => by simp at h
  | _, _, _, .dct e t _, a, h => by
    rcases List.mem_cons.mp h with rfl | h
    · exact ⟨.dct _, e⟩
    · exact OwnA.mem t a h
  | _, _, _, .dcn e _ _, a, h => by rw [List.mem_singleton.mp h]; exact ⟨.dcn _ _ _, e⟩
  | _, _, _, .ins e t _, a, h => by
    rcases List.mem_cons.mp h with rfl | h
    · exact ⟨.ins _ _ _, e⟩
    · exact OwnA.mem t a h
  | _, _, _, .lst e t _, a, h => by
    rcases List.mem_cons.mp h with rfl | h
    · exact ⟨.lst _, e⟩
    · exact OwnA.mem t a h
  | _, _, _, .tup _ t, a, h => OwnA.mem t a h
theorem OwnA.mem : ∀ {ds : List D} {vs : List V} {F : List Addr}, OwnA K H ds vs F → ∀ a, a ∈ F → ∃ xs : MO, H a = some xs.ho
  | _, _, _, .nil, _, h => by simp at h
  | _, _, _, .cons h1 t _, a, h => by
    rcases List.mem_append.mp h with h | h
    · exact Own.mem h1 a h
    · exact OwnA.mem t a h
end
/-- the change of a heap: but the lists at Fa all stands -/
structure Chg (Fa : Addr → Prop) (H H' : Hp) : Prop where
  keep : ∀ a o, H a = some o → (¬ Fa a ∨ isMut o = false) → H' a = some o
  there : ∀ a, H' a = none → H a = none
theorem Chg.refl (Fa : Addr → Prop) (H : Hp) : Chg Fa H H := ⟨fun _ _ h _ => h, fun _ h => h⟩
theorem Chg.same {Fa : Addr → Prop} (h : Same H H') : Chg Fa H H' := ⟨fun _ _ e _ => h _ _ e, fun _ e => h.free e⟩
theorem Chg.sqD {Fa : Addr → Prop} (c : Chg Fa H H') {a : Addr} {xs : List V} (h : SqD K H a xs) : SqD K H' a xs := by
  rcases h with ⟨o, h, n⟩ | h
  · exact .inl ⟨o, c.keep _ _ h (.inr rfl), n⟩
  · exact .inr h
theorem Chg.sqF {Fa : Addr → Prop} (c : Chg Fa H H') {a : Addr} {xs : List V} (h : SqF K H a xs) : SqF K H' a xs := by
  rcases h with ⟨o, h⟩ | h
  · exact .inl ⟨o, c.keep _ _ h (.inr rfl)⟩
  · exact .inr h
mutual
theorem Own.chg {Fa : Addr → Prop} (c : Chg Fa H H') : ∀ {d : D} {v : V} {F : List Addr}, Own K H d v F → (∀ a, a ∈ F → ¬ Fa a) → Own K H' d v F
  | _, _, _, .non, _ => .non
  | _, _, _, .bl b, _ => .bl b
  | _, _, _, .int b, _ => .int b
  | _, _, _, .str b, _ => .str b
  | _, _, _, .lst h t n, q => .lst (c.keep _ _ h (.inl (q _ (List.mem_cons_self ..)))) (OwnA.chg c t fun a ha => q a (List.mem_cons_of_mem _ ha)) n
  | _, _, _, .frz h t, q => .frz (c.sqF h) (OwnA.chg c t q)
  | _, _, _, .frd h, q => .frd (c.keep _ _ h (.inr rfl))
  | _, _, _, .dct h t n, q => .dct (c.keep _ _ h (.inl (q _ (List.mem_cons_self ..)))) (OwnA.chg c t fun a ha => q a (List.mem_cons_of_mem _ ha)) n
  | _, _, _, .dcn h t t2, q => .dcn (c.keep _ _ h (.inl (q _ (List.mem_cons_self ..)))) (OwnA.chg c t fun a ha => by cases ha) (OwnA.chg c t2 fun a ha => by cases ha)
  | _, _, _, .ins h t n, q => .ins (c.keep _ _ h (.inl (q _ (List.mem_cons_self ..)))) (OwnA.chg c t fun a ha => q a (List.mem_cons_of_mem _ ha)) n
  | _, _, _, .tup h t, q => .tup (c.sqD h) (OwnA.chg c t q)
theorem OwnA.chg {Fa : Addr → Prop} (c : Chg Fa H H') : ∀ {ds : List D} {vs : List V} {F : List Addr}, OwnA K H ds vs F → (∀ a, a ∈ F → ¬ Fa a) → OwnA K H' ds vs F
  | _, _, _, .nil, _ => .nil
  | _, _, _, .cons h t n, q => .cons (Own.chg c h fun a ha => q a (List.mem_append_left _ ha)) (OwnA.chg c t fun a ha => q a (List.mem_append_right _ ha)) n
end
theorem Own.same (h : Same H H') {d : D} {v : V} {F : List Addr} (o : Own K H d v F) : Own K H' d v F := o.chg (Fa := fun _ => False) (.same h) fun _ _ z => z
theorem OwnA.len : ∀ {ds : List D} {vs : List V} {F : List Addr}, OwnA K H ds vs F → vs.length = ds.length
  | _, _, _, .nil => rfl
  | _, _, _, .cons _ t _ => by rw [List.length_cons, List.length_cons, OwnA.len t]
end
end Sim
namespace Sim
open PySem PySem.Spec L2
abbrev Fp := Nat → List Addr
def InF (Fs : Fp) : Addr → Prop := fun a => ∃ i, a ∈ Fs i
/-- the slots' values, as they are told, stand -/
structure RelS (K : PySem.W.Frag) (H : Hp) (s : Sg) (σ : St) (Fs : Fp) : Prop where
  len : s.length = σ.length
  has : ∀ i d, s[i]? = some (some d) → ∃ v, σ[i]? = some (some v) ∧ Own K H d v (Fs i)
  off : ∀ i, (∀ d, s[i]? ≠ some (some d)) → Fs i = []
  dis : ∀ i j a, a ∈ Fs i → a ∈ Fs j → i = j
/-- from one heap to a later one -/
structure Ev (H : Hp) (Fs : Fp) (H' : Hp) (Fs' : Fp) : Prop where
  chg : Chg (InF Fs) H H'
  new : ∀ i a, a ∈ Fs' i → a ∈ Fs i ∨ H a = none
section
variable {K : PySem.W.Frag} {H H1 H' : Hp} {s s' : Sg} {σ σ' : St} {Fs Fs1 Fs' : Fp}
theorem RelS.mem (R : RelS K H s σ Fs) {i : Nat} {a : Addr} (h : a ∈ Fs i) : ∃ xs : MO, H a = some xs.ho := by
  cases e : s[i]? with
  | none =>
    rw [R.off i (fun d z => by rw [e] at z; cases z)] at h
    cases h
  | some o =>
    cases o with
    | none =>
      rw [R.off i (fun d z => by rw [e] at z; cases z)] at h
      cases h
    | some d =>
      obtain ⟨v, _, q⟩ := R.has i d e
      exact q.mem a h
theorem Ev.refl (H : Hp) (Fs : Fp) : Ev H Fs H Fs := ⟨.refl _ _, fun _ _ h => .inl h⟩
theorem Ev.same (Fs : Fp) (h : Same H H') : Ev H Fs H' Fs := ⟨.same h, fun _ _ h => .inl h⟩
theorem Ev.trans (a : Ev H Fs H1 Fs1) (b : Ev H1 Fs1 H' Fs') : Ev H Fs H' Fs' := by
  refine ⟨⟨fun x o e c => ?_, fun x e => a.chg.there x (b.chg.there x e)⟩, fun i x h => ?_⟩
  · have e1 := a.chg.keep x o e c
    refine b.chg.keep x o e1 (c.imp (fun n z => ?_) id)
    obtain ⟨i, hi⟩ := z
    rcases a.new i x hi with q | q
    · exact n ⟨i, q⟩
    · rw [e] at q; cases q
  · rcases b.new i x h with q | q
    · exact a.new i x q
    · exact .inr (a.chg.there x q)
theorem RelS.same (R : RelS K H s σ Fs) (h : Same H H') : RelS K H' s σ Fs :=
  ⟨R.len, fun i d e => by
    obtain ⟨v, hv, q⟩ := R.has i d e
    exact ⟨v, hv, q.same h⟩, R.off, R.dis⟩
/-- what stands apart from the slots -/
structure Apart (K : PySem.W.Frag) (H : Hp) (Fs : Fp) (d : D) (v : V) (F : List Addr) : Prop where
  own : Own K H d v F
  dis : ∀ i a, a ∈ Fs i → a ∉ F
theorem Apart.ev {d : D} {v : V} {F : List Addr} (A : Apart K H Fs d v F) (e : Ev H Fs H' Fs') : Apart K H' Fs' d v F := by
  refine ⟨A.own.chg e.chg fun a ha ⟨i, hi⟩ => A.dis i a hi ha, fun i a hi ha => ?_⟩
  rcases e.new i a hi with q | q
  · exact A.dis i a q ha
  · obtain ⟨xs, z⟩ := A.own.mem a ha
    rw [q] at z; cases z
/-- operands as they came -/
inductive Rfs (K : PySem.W.Frag) (H : Hp) (σ : St) (Fs : Fp) : List Rf → List V → List (List Addr) → Prop
  | nil : Rfs K H σ Fs [] [] []
  | val {d : D} {v : V} {F : List Addr} {rs : List Rf} {vs : List V} {Gs : List (List Addr)} : Apart K H Fs d v F → (∀ G, G ∈ Gs → ∀ a, a ∈ F → a ∉ G) → Rfs K H σ Fs rs vs Gs → Rfs K H σ Fs (.val d :: rs) (v :: vs) (F :: Gs)
  | slot {i : Nat} {v : V} {rs : List Rf} {vs : List V} {Gs : List (List Addr)} : σ[i]? = some (some v) → Rfs K H σ Fs rs vs Gs → Rfs K H σ Fs (.slot i :: rs) (v :: vs) ([] :: Gs)
theorem Rfs.mem {rs : List Rf} {vs : List V} {Gs : List (List Addr)} (r : Rfs K H σ Fs rs vs Gs) : ∀ G, G ∈ Gs → ∀ a, a ∈ G → ∃ xs : MO, H a = some xs.ho := by
  induction r with
  | nil => intro G h; cases h
  | val A _ _ ih =>
    intro G h a ha
    rcases List.mem_cons.mp h with rfl | h
    · exact A.own.mem a ha
    · exact ih G h a ha
  | slot _ _ ih =>
    intro G h a ha
    rcases List.mem_cons.mp h with rfl | h
    · cases ha
    · exact ih G h a ha
theorem join_some {i : Nat} {d : D} (e : (s[i]?).join = some d) : s[i]? = some (some d) := by
  cases h : s[i]? with
  | none => rw [h] at e; cases e
  | some o => rw [h] at e; rw [show o = some d from e]
/-- values that are told -/
inductive RdA (K : PySem.W.Frag) (H : Hp) : List V → List D → Prop
  | nil : RdA K H [] []
  | cons {v : V} {d : D} {F : List Addr} {vs : List V} {ds : List D} : Own K H d v F → RdA K H vs ds → RdA K H (v :: vs) (d :: ds)
theorem Rfs.dp (R : RelS K H s σ Fs) {rs : List Rf} {vs : List V} {Gs : List (List Addr)} (r : Rfs K H σ Fs rs vs Gs) : ∀ {ds : List D}, rds rs s = some ds → RdA K H vs ds := by
  induction r with
  | nil => intro ds e; cases e; exact .nil
  | @val d v F rs vs Gs A _ _ ih =>
    intro ds e
    unfold rds at e
    simp only [rd] at e
    split at e
    · cases e
    · rename_i es h; cases e; exact .cons A.own (ih h)
  | @slot i v rs vs Gs hv _ ih =>
    intro ds e
    unfold rds at e
    simp only [rd] at e
    split at e
    · cases e
    · rename_i d hd
      split at e
      · cases e
      · rename_i es h
        cases e
        obtain ⟨v', hv', q⟩ := R.has _ _ (join_some hd)
        rw [hv] at hv'
        cases hv'
        exact .cons q (ih h)
/-- one operand as it came -/
inductive RfOk (K : PySem.W.Frag) (H : Hp) (σ : St) (Fs : Fp) : Rf → V → List Addr → Prop
  | val {d : D} {v : V} {F : List Addr} : Apart K H Fs d v F → RfOk K H σ Fs (.val d) v F
  | slot {i : Nat} {v : V} : σ[i]? = some (some v) → RfOk K H σ Fs (.slot i) v []
theorem RfOk.ev {r : Rf} {v : V} {F : List Addr} (h : RfOk K H σ Fs r v F) (e : Ev H Fs H' Fs') : RfOk K H' σ Fs' r v F := by
  cases h with
  | val A => exact .val (A.ev e)
  | slot h => exact .slot h
theorem RfOk.mem {r : Rf} {v : V} {F : List Addr} (h : RfOk K H σ Fs r v F) : ∀ a, a ∈ F → ∃ xs : MO, H a = some xs.ho := by
  cases h with
  | val A => exact A.own.mem
  | slot h => intro a h; cases h
theorem RfOk.dp (R : RelS K H s σ Fs) {r : Rf} {v : V} {F : List Addr} (h : RfOk K H σ Fs r v F) {d : D} (e : rd r s = some d) : ∃ F', Own K H d v F' := by
  cases h with
  | val A => cases e; exact ⟨_, A.own⟩
  | slot h =>
    obtain ⟨v', hv', q⟩ := R.has _ _ (join_some e)
    rw [h] at hv'
    cases hv'
    exact ⟨_, q⟩
end
section
variable (K : PySem.W.Frag)
def tO (g : O) : TE := fun σ H Q => ∃ s Fs r s', RelS K H s σ Fs ∧ g s = .ok r s' ∧
  ∀ v H' Fs' F, RelS K H' s' σ Fs' → Ev H Fs H' Fs' → RfOk K H' σ Fs' r v F → (∀ a, a ∈ F → H a = none) → Q v H'
def tA (g : AL) : TA := fun σ H Q => ∃ s Fs rs s', RelS K H s σ Fs ∧ g s = .ok rs s' ∧
  ∀ vs H' Fs' Gs, RelS K H' s' σ Fs' → Ev H Fs H' Fs' → Rfs K H' σ Fs' rs vs Gs → (∀ G, G ∈ Gs → ∀ a, a ∈ G → H a = none) → Q vs H'
def tT (g : T) : TT := fun σ H Q => ∃ s Fs b s', RelS K H s σ Fs ∧ g s = .ok b s' ∧ ∀ H' Fs', RelS K H' s' σ Fs' → Ev H Fs H' Fs' → Q b H'
end
def SimO (X : Cx) (e : Expr) (g : O) : Prop := PE X e (tO X.K g)
def SimA (X : Cx) (es : List Expr) (g : AL) : Prop := PA X es (tA X.K g)
def SimT (X : Cx) (e : Expr) (g : T) : Prop := PT X e (tT X.K g)
theorem pe_imp {X : Cx} {e : Expr} {t t' : TE} (h : PE X e t) (i : ∀ σ H Q, t' σ H Q → t σ H Q) : PE X e t' := ⟨fun pins s σ H Q I q => h.run pins s σ H Q I (i σ H Q q)⟩
theorem pt_imp {X : Cx} {e : Expr} {t t' : TT} (h : PT X e t) (i : ∀ σ H Q, t' σ H Q → t σ H Q) : PT X e t' := ⟨fun pins s σ H Q I q => h.run pins s σ H Q I (i σ H Q q)⟩
theorem pa_imp {X : Cx} {e : List Expr} {t t' : TA} (h : PA X e t) (i : ∀ σ H Q, t' σ H Q → t σ H Q) : PA X e t' := ⟨fun pos pins s σ H Q I q => h.run pos pins s σ H Q I (i σ H Q q)⟩
def aNil : AL := fun s => .ok [] s
def aCons (g : O) (h : AL) : AL := fun s => (g s).bind fun r s1 => (h s1).bind fun rs s2 => .ok (r :: rs) s2
section
variable {X : Cx} {K : PySem.W.Frag}
theorem tA_nil {σ : St} {H : Hp} {Q : List V → Hp → Prop} (h : tA K aNil σ H Q) : tNil σ H Q := by
  obtain ⟨s, Fs, rs, s', R, e, q⟩ := h
  cases e
  exact q [] H Fs [] R (.refl _ _) .nil (by intro G h; cases h)
theorem tA_cons {g : O} {gs : AL} {σ : St} {H : Hp} {Q : List V → Hp → Prop} (h : tA K (aCons g gs) σ H Q) : tCons (tO K g) (tA K gs) σ H Q := by
  obtain ⟨s, Fs, rs, s', R, e, q⟩ := h
  obtain ⟨r, s1, e1, e⟩ := bind_inv e
  obtain ⟨rs1, s2, e2, e⟩ := bind_inv e
  cases e
  refine ⟨s, Fs, r, s1, R, e1, fun v H1 Fs1 F R1 E1 k1 n1 => ⟨s1, Fs1, rs1, s', R1, e2, fun vs H2 Fs2 Gs R2 E2 k2 n2 => ?_⟩⟩
  have k1' := k1.ev E2
  have nn : ∀ G, G ∈ Gs → ∀ a, a ∈ G → H a = none := fun G hG a ha => E1.chg.there a (n2 G hG a ha)
  cases k1' with
  | val A =>
    refine q _ H2 Fs2 (F :: Gs) R2 (E1.trans E2) (.val A (fun G hG a ha hb => ?_) k2) (fun G hG a ha => ?_)
    · obtain ⟨xs, z⟩ := k1.mem a ha
      rw [n2 G hG a hb] at z; cases z
    · rcases List.mem_cons.mp hG with rfl | hG
      · exact n1 a ha
      · exact nn G hG a ha
  | slot hv =>
    refine q _ H2 Fs2 ([] :: Gs) R2 (E1.trans E2) (.slot hv k2) (fun G hG a ha => ?_)
    rcases List.mem_cons.mp hG with rfl | hG
    · cases ha
    · exact nn G hG a ha
theorem sa_nil : SimA X [] aNil := pa_imp pa_nil fun _ _ _ h => tA_nil h
theorem sa_cons {e : Expr} {es : List Expr} {g : O} {gs : AL} (ha : SimO X e g) (hr : SimA X es gs) (hs : starEach (e :: es) X.env = (false, eval e X.env) :: starEach es X.env := by rfl) : SimA X (e :: es) (aCons g gs) :=
  pa_imp (pa_cons ha hr hs) fun _ _ _ h => tA_cons h
theorem tO_mono {g : O} {σ : St} {H : Hp} {Q Q' : VK} (i : ∀ v H, Q v H → Q' v H) (h : tO K g σ H Q) : tO K g σ H Q' := by
  obtain ⟨s, Fs, r, s', R, e, q⟩ := h
  exact ⟨s, Fs, r, s', R, e, fun v H' Fs' F a b c d => i _ _ (q v H' Fs' F a b c d)⟩
theorem tA_mono {g : AL} {σ : St} {H : Hp} {Q Q' : List V → Hp → Prop} (i : ∀ v H, Q v H → Q' v H) (h : tA K g σ H Q) : tA K g σ H Q' := by
  obtain ⟨s, Fs, r, s', R, e, q⟩ := h
  exact ⟨s, Fs, r, s', R, e, fun v H' Fs' F a b c d => i _ _ (q v H' Fs' F a b c d)⟩
theorem tA1 {a : O} {σ : St} {H : Hp} {Q : List V → Hp → Prop} (h : tA K (aCons a aNil) σ H Q) : tO K a σ H fun x H1 => Q [x] H1 :=
  tO_mono (fun _ _ h => by have z := tA_nil h; exact z) (tA_cons h)
theorem tA2 {a b : O} {σ : St} {H : Hp} {Q : List V → Hp → Prop} (h : tA K (aCons a (aCons b aNil)) σ H Q) : tO K a σ H fun x H1 => tO K b σ H1 fun y H2 => Q [x, y] H2 :=
  tO_mono (fun _ _ h => by have z := tA1 h; exact z) (tA_cons h)
end
def NewV (K : PySem.W.Frag) (H : Hp) (d : D) (v : V) (H' : Hp) : Prop := Same H H' ∧ ∃ F, Own K H' d v F ∧ ∀ a, a ∈ F → H a = none
def PrimR (K : PySem.W.Frag) (r : List V → Hp → VK → Prop) (f : List D → Option D) : Prop :=
  ∀ vs ds d H Q, RdA K H vs ds → f ds = some d → (∀ v H', NewV K H d v H' → Q v H') → r vs H Q
def oPrim (f : List D → Option D) (g : AL) : O := fun s => (g s).bind fun rs s1 => match rds rs s1 with
  | none => .bad
  | some ds => match f ds with
    | none => .bad
    | some d => .ok (.val d) s1
section
variable {X : Cx} {K : PySem.W.Frag} {H H' : Hp}
theorem NewV.ok {s : Sg} {σ : St} {Fs : Fp} {d : D} {v : V} (R : RelS K H s σ Fs) (h : NewV K H d v H') : RelS K H' s σ Fs ∧ Ev H Fs H' Fs ∧ ∃ F, RfOk K H' σ Fs (.val d) v F ∧ ∀ a, a ∈ F → H a = none := by
  obtain ⟨sm, F, o, n⟩ := h
  refine ⟨R.same sm, .same _ sm, F, .val ⟨o, fun i a hi ha => ?_⟩, n⟩
  obtain ⟨xs, z⟩ := R.mem hi
  rw [n a ha] at z; cases z
theorem prim {r : List V → Hp → VK → Prop} {f : List D → Option D} {g : AL} (hp : PrimR K r f) {σ : St} {H : Hp} {Q : VK} (h : tO K (oPrim f g) σ H Q) : tA K g σ H fun vs H1 => r vs H1 Q := by
  obtain ⟨s, Fs, rf, s', R, e, q⟩ := h
  obtain ⟨rs, s1, e1, e⟩ := bind_inv e
  refine ⟨s, Fs, rs, s1, R, e1, fun vs H1 Fs1 Gs R1 E1 k1 n1 => ?_⟩
  split at e
  · cases e
  · rename_i ds hds
    split at e
    · cases e
    · rename_i d hd
      cases e
      refine hp vs ds d H1 Q (k1.dp R1 hds) hd fun v H2 hv => ?_
      obtain ⟨R2, E2, F, k, n⟩ := hv.ok R1
      exact q v H2 Fs1 F R2 (E1.trans E2) k fun a ha => E1.chg.there a (n a ha)
theorem NewV.sc {d : D} {v : V} (h : Own K H d v []) : NewV K H d v H := ⟨Same.refl _, [], h, fun _ z => by cases z⟩
theorem NewV.pu {d : D} {v : V} {F : List Addr} (h : Own K H d v F) (p : pur d = true) : NewV K H d v H := .sc (by rw [h.pur p] at h; exact h)
/-- a new object -/
theorem same_new {a : Addr} {o : HO} (h : H a = none) : Same H (upd H a o) := fun b x e => by rw [upd_ne (ne_of_none e h)]; exact e
theorem NewV.tup {ds : List D} {vs : List V} {a : Addr} {o : Obj} (h : OwnA K H ds vs []) (n : H a = none) (nd : o.dict = none) : NewV K H (.tuple ds) (.ref a) (upd H a (.frz o (.tup vs))) := by
  have sm : Same H (upd H a (.frz o (.tup vs))) := same_new n
  exact ⟨sm, [], .tup (SqD.of upd_same nd) (h.chg (Fa := fun _ => False) (.same sm) fun _ _ z => z), fun _ z => by cases z⟩
theorem NewV.lst {ds : List D} {vs : List V} {a : Addr} (h : OwnA K H ds vs []) (n : H a = none) : NewV K H (.list ds) (.ref a) (upd H a (.lst vs)) := by
  have sm : Same H (upd H a (.lst vs)) := same_new n
  exact ⟨sm, [a], .lst upd_same (h.chg (Fa := fun _ => False) (.same sm) fun _ _ z => z) (by simp), fun b z => by rw [List.mem_singleton.mp z]; exact n⟩
end
end Sim
namespace Sim
open PySem PySem.Spec L2
theorem big_le : 1000000 ≤ sizeLine := by decide
def u2 (r : R2) : List V → Hp → VK → Prop
  | [x, y], H, Q => r x y H Q
  | _, _, _ => False
def u1 (r : V → Hp → VK → Prop) : List V → Hp → VK → Prop
  | [x], H, Q => r x H Q
  | _, _, _ => False
def mulOk (a b : Int) : Bool := (decide (-(2 ^ 64) < a) && decide (a < 2 ^ 64)) || (decide (-(2 ^ 64) < b) && decide (b < 2 ^ 64)) || decide (a.natAbs.log2 + b.natAbs.log2 < 1000000)
def pAdd : List D → Option D
  | [.int a, .int b] => some (.int (a + b))
  | [.str a, .str b] => if a.length + b.length ≤ 1000000 then some (.str (a ++ b)) else none
  | [.list a, .list b] => if a.length + b.length ≤ 1000000 ∧ purs a = true ∧ purs b = true then some (.list (a ++ b)) else none
  | [.tuple a, .tuple b] => if a.length + b.length ≤ 1000000 ∧ purs a = true ∧ purs b = true then some (.tuple (a ++ b)) else none
  | _ => none
def pSub : List D → Option D
  | [.int a, .int b] => some (.int (a - b))
  | _ => none
def pMul : List D → Option D
  | [.int a, .int b] => if mulOk a b = true then some (.int (a * b)) else none
  | [.tuple a, .int b] => if -1000 ≤ b ∧ b ≤ 1000 ∧ a.length ≤ 1000 ∧ purs a = true then some (.tuple (List.replicate b.toNat a).flatten) else none
  | [.list a, .int b] => if b < 2 ^ 63 ∧ -(2 ^ 63) ≤ b ∧ a.length * b.toNat ≤ 1000000 ∧ purs a = true then some (.list (List.replicate b.toNat a).flatten) else none
  | _ => none
def pDiv : List D → Option D
  | [.int a, .int b] => if 0 < b ∧ b.natAbs.log2 < 9000 then some (.int (a / b)) else none
  | _ => none
def pMod : List D → Option D
  | [.int a, .int b] => if 0 < b then some (.int (a % b)) else none
  | _ => none
def pPow : List D → Option D
  | [.int a, .int b] => if 0 ≤ b ∧ b ≤ 1000000 ∧ a.natAbs < 2 ^ 64 then some (.int (a ^ b.toNat)) else none
  | _ => none
def pShl : List D → Option D
  | [.int a, .int b] => if 0 ≤ b ∧ b ≤ 1000000 ∧ a.natAbs < 2 ^ 64 then some (.int (a * 2 ^ b.toNat)) else none
  | _ => none
def pNeg : List D → Option D
  | [.int a] => some (.int (-a))
  | _ => none
def pLt : List D → Option D
  | [.int a, .int b] => some (.bool (decide (a < b)))
  | _ => none
def pLe : List D → Option D
  | [.int a, .int b] => some (.bool (decide (a ≤ b)))
  | _ => none
def pGt : List D → Option D
  | [.int a, .int b] => some (.bool (decide (b < a)))
  | _ => none
def pGe : List D → Option D
  | [.int a, .int b] => some (.bool (decide (b ≤ a)))
  | _ => none
/-- what may be compared by == -/
def shp (d : D) : Bool := SeqAt.shaped d && noD d
def pEq : List D → Option D
  | [a, b] => if shp a = true ∧ shp b = true then some (.bool (PyData.eqv a b)) else none
  | _ => none
def pNe : List D → Option D
  | [a, b] => if shp a = true ∧ shp b = true then some (.bool (!PyData.eqv a b)) else none
  | _ => none
def isN : D → Bool
  | .none => true
  | _ => false
def pIsN : List D → Option D
  | [a, .none] => some (.bool (isN a))
  | [.bool a, .bool b] => some (.bool (decide (a = b)))
  | _ => none
def pNotN : List D → Option D
  | [a, .none] => some (.bool (!isN a))
  | [.bool a, .bool b] => some (.bool (!decide (a = b)))
  | _ => none
def pIn : List D → Option D
  | [a, .list b] => if shp a = true ∧ shp (.list b) = true then some (.bool (b.any fun z => PyData.eqv z a)) else none
  | [a, .tuple b] => if fl a = true ∧ b.all fl = true then some (.bool (b.any fun z => PyData.eqv z a)) else none
  | [.str a, .str b] => some (.bool (!(Builtin.Str.occurrences b a 0 b.length 1).isEmpty))
  | _ => none
where fl : D → Bool
  | .none => true
  | .bool _ => true
  | .int _ => true
  | .str _ => true
  | _ => false
section
variable {K : PySem.W.Frag}
theorem RdA.two {H : Hp} {vs : List V} {a b : D} (h : RdA K H vs [a, b]) : ∃ x y F G, vs = [x, y] ∧ Own K H a x F ∧ Own K H b y G := by
  cases h with
  | cons o h =>
    cases h with
    | cons o2 h =>
      cases h
      exact ⟨_, _, _, _, rfl, o, o2⟩
theorem RdA.one {H : Hp} {vs : List V} {a : D} (h : RdA K H vs [a]) : ∃ x F, vs = [x] ∧ Own K H a x F := by
  cases h with
  | cons o h =>
    cases h
    exact ⟨_, _, rfl, o⟩
theorem RdA.zero {H : Hp} {vs : List V} (h : RdA K H vs []) : vs = [] := by
  cases h
  rfl
theorem purs_app {a b : List D} : purs (a ++ b) = (purs a && purs b) := by
  induction a with
  | nil => simp [purs]
  | cons x a ih => simp [purs, ih, Bool.and_assoc]
theorem OwnA.nil2 {H : Hp} {v : V} {vs : List V} {d : D} {ds : List D} (h : OwnA K H (d :: ds) (v :: vs) []) : Own K H d v [] ∧ OwnA K H ds vs [] := by
  generalize e : ([] : List Addr) = F at h
  cases h with
  | @cons _ _ _ _ F G o t n =>
    have e1 : F = [] ∧ G = [] := List.append_eq_nil_iff.mp e.symm
    obtain ⟨rfl, rfl⟩ := e1
    exact ⟨o, t⟩
theorem OwnA.cons0 {H : Hp} {v : V} {vs : List V} {d : D} {ds : List D} (o : Own K H d v []) (t : OwnA K H ds vs []) : OwnA K H (d :: ds) (v :: vs) [] := OwnA.cons (F := []) (G := []) o t (by simp)
theorem OwnA.app {H : Hp} : ∀ {as bs : List D} {vs ws : List V}, OwnA K H as vs [] → OwnA K H bs ws [] → OwnA K H (as ++ bs) (vs ++ ws) []
  | [], _, [], _, _, g => g
  | _ :: _, _, _ :: _, _, h, g => .cons0 h.nil2.1 (OwnA.app h.nil2.2 g)
  | [], _, _ :: _, _, h, _ => nomatch h
  | _ :: _, _, [], _, h, _ => nomatch h
theorem OwnA.rep {H : Hp} {as : List D} {vs : List V} (h : OwnA K H as vs []) : ∀ k : Nat, OwnA K H (List.replicate k as).flatten (List.replicate k vs).flatten []
  | 0 => .nil
  | k + 1 => by
    rw [List.replicate_succ, List.replicate_succ, List.flatten_cons, List.flatten_cons]
    exact h.app (OwnA.rep h k)
theorem OwnA.take {H : Hp} : ∀ {as : List D} {vs : List V}, OwnA K H as vs [] → ∀ n, OwnA K H (as.take n) (vs.take n) []
  | [], [], _, _ => by simp; exact .nil
  | _ :: _, _ :: _, _, 0 => .nil
  | _ :: _, _ :: _, h, n + 1 => .cons0 h.nil2.1 (OwnA.take h.nil2.2 n)
  | [], _ :: _, h, _ => nomatch h
  | _ :: _, [], h, _ => nomatch h
theorem OwnA.drop {H : Hp} : ∀ {as : List D} {vs : List V}, OwnA K H as vs [] → ∀ n, OwnA K H (as.drop n) (vs.drop n) []
  | [], [], _, _ => by simp; exact .nil
  | _ :: _, _ :: _, h, 0 => h
  | _ :: _, _ :: _, h, n + 1 => OwnA.drop h.nil2.2 n
  | [], _ :: _, h, _ => nomatch h
  | _ :: _, [], h, _ => nomatch h
theorem OwnA.get {H : Hp} : ∀ {as : List D} {vs : List V} {F : List Addr}, OwnA K H as vs F → ∀ (i : Nat) (d : D), as[i]? = some d → ∃ v G, vs[i]? = some v ∧ Own K H d v G ∧ ∀ a, a ∈ G → a ∈ F
  | [], _, _, _, i, d, e => by simp at e
  | d :: ds, _, _, h, 0, d', e => by
    simp at e
    subst e
    cases h with
    | cons o t n => exact ⟨_, _, rfl, o, fun a h => List.mem_append_left _ h⟩
  | d :: ds, _, _, h, i + 1, d', e => by
    cases h with
    | cons o t n =>
      obtain ⟨v', G', h1, h2, h3⟩ := OwnA.get t i d' (by simpa using e)
      exact ⟨v', G', by simpa using h1, h2, fun a h => List.mem_append_right _ (h3 a h)⟩
def rAddA (K : PySem.W.Frag) : R2 := fun x y H Q => rI0 (fun i j => .int (i + j)) x y H Q ∨ (∃ i j, x = .str i ∧ y = .str j ∧ i.length + j.length ≤ sizeLine ∧ Q (.str (i ++ j)) H) ∨ rCat x y H Q ∨ rCatD K x y H Q
theorem op_addA {X : Cx} : OpR X (binaryOp .Add) (rAddA X.K) := op_add.or (op_add_str.or (op_cat.or op_catD))
theorem pr_add : PrimR K (u2 (rAddA K)) pAdd := by
  intro vs ds d H Q h e q
  unfold pAdd at e
  split at e
  · obtain ⟨x, y, F, G, rfl, o1, o2⟩ := h.two
    cases o1; cases o2; cases e
    exact .inl ⟨_, _, rfl, rfl, q _ _ (.sc (.int _))⟩
  · obtain ⟨x, y, F, G, rfl, o1, o2⟩ := h.two
    split at e
    · rename_i hl
      cases o1; cases o2; cases e
      exact .inr (.inl ⟨_, _, rfl, rfl, Nat.le_trans hl big_le, q _ _ (.sc (.str _))⟩)
    · cases e
  · obtain ⟨x, y, F, G, rfl, o1, o2⟩ := h.two
    split at e
    · rename_i hl
      cases e
      cases o1 with
      | lst e1 t1 n1 =>
        cases o2 with
        | lst e2 t2 n2 =>
          have l1 := t1.len
          have l2 := t2.len
          refine .inr (.inr (.inl ⟨_, _, _, _, rfl, rfl, e1, e2, by have := big_le; omega, fun p hp => q _ _ (.lst ?_ hp)⟩))
          have p1 := t1.pur hl.2.1
          have p2 := t2.pur hl.2.2
          subst p1; subst p2
          exact t1.app t2
    · cases e
  · obtain ⟨x, y, F, G, rfl, o1, o2⟩ := h.two
    split at e
    · rename_i a b hl
      cases e
      cases o1 with
      | tup e1 t1 =>
        cases o2 with
        | tup e2 t2 =>
          have l1 := t1.len
          have l2 := t2.len
          have p1 := t1.pur hl.2.1
          have p2 := t2.pur hl.2.2
          subst p1; subst p2
          refine .inr (.inr (.inr ⟨_, _, _, _, rfl, rfl, e1.sq, e2.sq, by have := big_le; omega, fun z => ?_, fun _ z => ?_, fun _ _ p o hp hn => q _ _ (.tup (t1.app t2) hp hn)⟩))
          · subst z
            cases t1
            exact q _ _ (.sc (.tup e2 t2))
          · subst z
            cases t2
            rw [List.append_nil] at q
            exact q _ _ (.sc (.tup e1 t1))
    · cases e
  · cases e
theorem pr_sub : PrimR K (u2 (rI0 fun i j => .int (i - j))) pSub := by
  intro vs ds d H Q h e q
  unfold pSub at e
  split at e
  · obtain ⟨x, y, F, G, rfl, o1, o2⟩ := h.two
    cases o1; cases o2; cases e
    exact ⟨_, _, rfl, rfl, q _ _ (.sc (.int _))⟩
  · cases e
def CMulA (i j : Int) : Prop := CMul i j ∨ CMulW i j
theorem CMulA.ok {i j : Int} (h : CMulA i j) : IntMulOk i j := h.elim CMul.ok CMulW.ok
def rMulA (K : PySem.W.Frag) : R2 := fun x y H Q => rI CMulA (fun i j => .int (i * j)) x y H Q ∨ rRep x y H Q ∨ rRepD K x y H Q
theorem op_mulA {X : Cx} : OpR X (binaryOp .Mult) (rMulA X.K) := (opI fun _ _ _ _ _ _ _ hc q => PyProof.Rows.mul_int q hc.ok).or (op_rep.or op_repD)
theorem pr_mul : PrimR K (u2 (rMulA K)) pMul := by
  intro vs ds d H Q h e q
  unfold pMul at e
  split at e
  · obtain ⟨x, y, F, G, rfl, o1, o2⟩ := h.two
    split at e
    · rename_i hm
      cases o1; cases o2; cases e
      refine .inl ⟨_, _, rfl, rfl, ?_, q _ _ (.sc (.int _))⟩
      unfold mulOk at hm
      simp only [Bool.or_eq_true, Bool.and_eq_true, decide_eq_true_eq] at hm
      rcases hm with hm | hm
      · exact .inl hm
      · exact .inr hm
    · cases e
  · obtain ⟨x, y, F, G, rfl, o1, o2⟩ := h.two
    split at e
    · rename_i hm
      cases o2; cases e
      cases o1 with
      | tup e1 t1 =>
        have p1 := t1.pur hm.2.2.2
        subst p1
        have l1 := t1.len
        refine .inr (.inr ⟨_, _, _, rfl, rfl, e1.sq, hm.1, hm.2.1, by omega, fun z => ?_, fun _ _ p o hp hn => q _ _ (.tup (t1.rep _) hp hn)⟩)
        rcases z with z | z
        · subst z
          have e0 := t1.len
          cases t1
          rw [List.flatten_replicate_nil] at q
          exact q _ _ (.sc (.tup e1 .nil))
        · subst z
          simp only [Int.toNat_one, List.replicate_one, List.flatten_singleton] at q
          exact q _ _ (.sc (.tup e1 t1))
    · cases e
  · obtain ⟨x, y, F, G, rfl, o1, o2⟩ := h.two
    split at e
    · rename_i hm
      cases o2; cases e
      cases o1 with
      | lst e1 t1 n1 =>
        have l1 := t1.len
        have p1 := t1.pur hm.2.2.2
        subst p1
        refine .inr (.inl ⟨_, _, _, rfl, rfl, e1, hm.2.1, hm.1, ?_, fun p hp => q _ _ (.lst (t1.rep _) hp)⟩)
        rw [l1]
        exact Nat.le_trans hm.2.2.1 big_le
    · cases e
  · cases e
theorem pr_div : PrimR K (u2 (rI CDivW fun i j => .int (i / j))) pDiv := by
  intro vs ds d H Q h e q
  unfold pDiv at e
  split at e
  · obtain ⟨x, y, F, G, rfl, o1, o2⟩ := h.two
    split at e
    · rename_i hm
      cases o1; cases o2; cases e
      exact ⟨_, _, rfl, rfl, hm, q _ _ (.sc (.int _))⟩
    · cases e
  · cases e
theorem pr_mod : PrimR K (u2 (rI (fun _ j => 0 < j) fun i j => .int (i % j))) pMod := by
  intro vs ds d H Q h e q
  unfold pMod at e
  split at e
  · obtain ⟨x, y, F, G, rfl, o1, o2⟩ := h.two
    split at e
    · rename_i hm
      cases o1; cases o2; cases e
      exact ⟨_, _, rfl, rfl, hm, q _ _ (.sc (.int _))⟩
    · cases e
  · cases e
theorem pr_pow : PrimR K (u2 (rI CPow fun i j => .int (i ^ j.toNat))) pPow := by
  intro vs ds d H Q h e q
  unfold pPow at e
  split at e
  · obtain ⟨x, y, F, G, rfl, o1, o2⟩ := h.two
    split at e
    · rename_i hm
      cases o1; cases o2; cases e
      exact ⟨_, _, rfl, rfl, hm, q _ _ (.sc (.int _))⟩
    · cases e
  · cases e
theorem pr_neg : PrimR K (u1 (rU fun i => .int (-i))) pNeg := by
  intro vs ds d H Q h e q
  unfold pNeg at e
  split at e
  · obtain ⟨x, F, rfl, o1⟩ := h.one
    cases o1; cases e
    exact ⟨_, rfl, q _ _ (.sc (.int _))⟩
  · cases e
theorem pr_lt : PrimR K (u2 (rI0 fun i j => .bl (decide (i < j)))) pLt := by
  intro vs ds d H Q h e q
  unfold pLt at e
  split at e
  · obtain ⟨x, y, F, G, rfl, o1, o2⟩ := h.two
    cases o1; cases o2; cases e
    exact ⟨_, _, rfl, rfl, q _ _ (.sc (.bl _))⟩
  · cases e
theorem pr_gt : PrimR K (u2 (rI0 fun i j => .bl (decide (j < i)))) pGt := by
  intro vs ds d H Q h e q
  unfold pGt at e
  split at e
  · obtain ⟨x, y, F, G, rfl, o1, o2⟩ := h.two
    cases o1; cases o2; cases e
    exact ⟨_, _, rfl, rfl, q _ _ (.sc (.bl _))⟩
  · cases e
theorem pr_ge : PrimR K (u2 (rI0 fun i j => .bl (decide (j ≤ i)))) pGe := by
  intro vs ds d H Q h e q
  unfold pGe at e
  split at e
  · obtain ⟨x, y, F, G, rfl, o1, o2⟩ := h.two
    cases o1; cases o2; cases e
    exact ⟨_, _, rfl, rfl, q _ _ (.sc (.bl _))⟩
  · cases e
theorem pr_eq : PrimR K (u2 (rEqD K)) pEq := by
  intro vs ds d H Q h e q
  unfold pEq at e
  split at e
  · obtain ⟨x, y, F, G, rfl, o1, o2⟩ := h.two
    split at e
    · rename_i hm
      cases e
      simp only [shp, Bool.and_eq_true] at hm
      exact ⟨_, _, o1.dp hm.1.2, o2.dp hm.2.2, hm.1.1, hm.2.1, q _ _ (.sc (.bl _))⟩
    · cases e
  · cases e
theorem pr_ne : PrimR K (u2 (rNeD K)) pNe := by
  intro vs ds d H Q h e q
  unfold pNe at e
  split at e
  · obtain ⟨x, y, F, G, rfl, o1, o2⟩ := h.two
    split at e
    · rename_i hm
      cases e
      simp only [shp, Bool.and_eq_true] at hm
      exact ⟨_, _, o1.dp hm.1.2, o2.dp hm.2.2, hm.1.1, hm.2.1, q _ _ (.sc (.bl _))⟩
    · cases e
  · cases e
theorem eqV_eqv {H : Hp} {a b : D} {x y : V} {F G : List Addr} (o : Own K H a x F) (o2 : Own K H b y G) (h1 : pIn.fl a = true) (h2 : pIn.fl b = true) : eqV x y = PyData.eqv a b ∧ flatV x = true ∧ flatV y = true := by
  cases o <;> simp [pIn.fl] at h1 <;> cases o2 <;> simp [pIn.fl] at h2 <;> refine ⟨?_, rfl, rfl⟩ <;> simp [eqV, PyData.eqv]
theorem inV_any {H : Hp} {a : D} {x : V} {F : List Addr} (o : Own K H a x F) (h1 : pIn.fl a = true) : ∀ {bs : List D} {ys : List V} {G : List Addr}, OwnA K H bs ys G → bs.all pIn.fl = true →
    inV x ys = (bs.any fun z => PyData.eqv z a) ∧ ys.all flatV = true
  | [], _, _, t, _ => by cases t; exact ⟨rfl, rfl⟩
  | d :: ds, _, _, t, h2 => by
    cases t with
    | cons o' t n =>
      rw [List.all_cons, Bool.and_eq_true] at h2
      obtain ⟨h3, h4⟩ := inV_any o h1 t h2.2
      obtain ⟨e1, e2, e3⟩ := eqV_eqv o' o h2.1 h1
      unfold inV at h3 ⊢
      rw [List.any_cons, List.any_cons, e1, h3, List.all_cons, e2, h4]
      exact ⟨rfl, rfl⟩
def rInA (K : PySem.W.Frag) : R2 := fun x y H Q => rInD K x y H Q ∨ rIn K false x y H Q ∨ (∃ i j, x = .str i ∧ y = .str j ∧ Q (.bl (!(Builtin.Str.occurrences j i 0 j.length 1).isEmpty)) H)
theorem op_inA {X : Cx} (hu : X.A.units + 65 < cLine) : OpR X (compareOp .In) (rInA X.K) := (op_inD hu).or (op_in_seq.or op_in_str)
theorem pr_in : PrimR K (u2 (rInA K)) pIn := by
  intro vs ds d H Q h e q
  unfold pIn at e
  split at e
  · obtain ⟨x, y, F, G, rfl, o1, o2⟩ := h.two
    split at e
    · rename_i hm
      cases e
      simp only [shp, Bool.and_eq_true] at hm
      exact .inl ⟨_, _, o1.dp hm.1.2, o2.dp hm.2.2, hm.1.1, hm.2.1, q _ _ (.sc (.bl _))⟩
    · cases e
  · obtain ⟨x, y, F, G, rfl, o1, o2⟩ := h.two
    split at e
    · rename_i hm
      cases e
      cases o2 with
      | tup e2 t2 =>
        obtain ⟨h3, h4⟩ := inV_any o1 hm.1 t2 hm.2
        refine .inr (.inl ⟨_, _, rfl, .inr e2.sq, ?_, h4, ?_⟩)
        · exact (eqV_eqv o1 o1 hm.1 hm.1).2.1
        · rw [if_neg (by simp), h3]
          exact q _ _ (.sc (.bl _))
    · cases e
  · obtain ⟨x, y, F, G, rfl, o1, o2⟩ := h.two
    cases o1; cases o2; cases e
    exact .inr (.inr ⟨_, _, rfl, rfl, q _ _ (.sc (.bl _))⟩)
  · cases e
end
end Sim
namespace Sim
open PySem PySem.Spec L2
def oV (i : Nat) : O := fun s => match (s[i]?).join with
  | some _ => .ok (.slot i) s
  | none => .bad
def oC (d : D) : O := fun s => .ok (.val d) s
def o1 (f : List D → Option D) (a : O) : O := oPrim f (aCons a aNil)
def o2 (f : List D → Option D) (a b : O) : O := oPrim f (aCons a (aCons b aNil))
def tst (g : O) : T := fun s => (g s).bind fun r s1 => match rd r s1 with
  | some (.bool b) => .ok b s1
  | _ => .bad
def oAnd (g h : O) : O := fun s => (g s).bind fun r s1 => match rd r s1 with
  | some (.bool true) => h s1
  | some (.bool false) => .ok (.val (.bool false)) s1
  | _ => .bad
def oOr (g h : O) : O := fun s => (g s).bind fun r s1 => match rd r s1 with
  | some (.bool true) => .ok (.val (.bool true)) s1
  | some (.bool false) => h s1
  | _ => .bad
def oNot (g : O) : O := fun s => (g s).bind fun r s1 => match rd r s1 with
  | some (.bool b) => .ok (.val (.bool (!b))) s1
  | _ => .bad
def tAnd (t u : T) : T := fun s => (t s).bind fun b s1 => if b = true then u s1 else .ok false s1
def tOr (t u : T) : T := fun s => (t s).bind fun b s1 => if b = true then .ok true s1 else u s1
def tNot (t : T) : T := fun s => (t s).bind fun b s1 => .ok (!b) s1
def oIf (c : T) (a b : O) : O := fun s => (c s).bind fun k s1 => if k = true then a s1 else b s1
def oChain (f f' : List D → Option D) (a b c : O) : O := fun s => (a s).bind fun ra s1 => (b s1).bind fun rb s2 => match rds [ra, rb] s2 with
  | none => .bad
  | some ds => match f ds with
    | some (.bool true) => (c s2).bind fun rc s3 => (match rds [rb, rc] s3 with
      | none => .bad
      | some es => match f' es with
        | none => .bad
        | some d => .ok (.val d) s3)
    | some (.bool false) => .ok (.val (.bool false)) s2
    | _ => .bad
/-- a value for oneself: a slot's only where nothing in it may change -/
def own (r : Rf) (s : Sg) : Option D := match r with
  | .val d => some d
  | .slot i => match (s[i]?).join with
    | none => none
    | some d => if pur d = true then some d else none
def owns : List Rf → Sg → Option (List D)
  | [], _ => some []
  | r :: rs, s => match own r s with
    | none => none
    | some d => match owns rs s with
      | none => none
      | some ds => some (d :: ds)
def oTup (g : AL) : O := fun s => (g s).bind fun rs s1 => match owns rs s1 with
  | none => .bad
  | some ds => if ds.length ≤ 1000000 then .ok (.val (.tuple ds)) s1 else .bad
def oLst (g : AL) : O := fun s => (g s).bind fun rs s1 => match owns rs s1 with
  | none => .bad
  | some ds => if ds.length ≤ 1000000 then .ok (.val (.list ds)) s1 else .bad
def puO (o : Option D) : Option D := match o with
  | none => none
  | some d => if pur d = true then some d else none
def pIx : List D → Option D
  | [.list ds, .int i] => puO (atI ds i)
  | [.tuple ds, .int i] => puO (atI ds i)
  | [.dict [(.none, .list ds)], .int i] => puO (atI ds i)
  | [.str z, .int i] => if z.length ≤ 1000000 then (match atI z.cps.toList i with
    | none => none
    | some c => some (.str ⟨#[c]⟩)) else none
  | _ => none
def cutL {α : Type} (xs : List α) (lo hi : Option Int) : List α := (xs.drop (HT.sIx xs.length 0 lo)).take (HT.sIx xs.length xs.length hi - HT.sIx xs.length 0 lo)
def slD : D → Option Int → Option Int → Option D
  | .list ds, lo, hi => if purs ds = true then some (.list (cutL ds lo hi)) else none
  | .tuple ds, lo, hi => if purs ds = true then some (.tuple (cutL ds lo hi)) else none
  | .dict [(.none, .list ds)], lo, hi => some (.list (cutL ds lo hi))
  | .str z, lo, hi => if z.length ≤ 1000000 then some (.str (cutS z lo hi)) else none
  | _, _, _ => none
def prt (p : Option O) : Sg → Res (Option Int) := match p with
  | none => fun s => .ok none s
  | some g => fun s => (g s).bind fun r s1 => match rd r s1 with
    | some (.int i) => .ok (some i) s1
    | _ => .bad
def oSl (g : O) (lo hi : Option O) : O := fun s => (g s).bind fun r s1 => (prt lo s1).bind fun l s2 => (prt hi s2).bind fun u s3 => match rd r s3 with
  | none => .bad
  | some d => match slD d l u with
    | none => .bad
    | some d' => .ok (.val d') s3
section
variable {X : Cx} {K : PySem.W.Frag} {H : Hp} {σ : St} {Q : VK}
theorem so_var {i : Nat} {x : Str} {pos : Pos} (h : PE X (.Name x pos) (tVar i)) : SimO X (.Name x pos) (oV i) := by
  refine pe_imp h fun σ H Q h => ?_
  obtain ⟨s, Fs, r, s', R, e, q⟩ := h
  unfold oV at e
  split at e
  · rename_i d hd
    cases e
    obtain ⟨v, hv, o⟩ := R.has i d (join_some hd)
    exact ⟨v, hv, q v H Fs [] R (.refl _ _) (.slot hv) (by intro a h; cases h)⟩
  · cases e
theorem tO_c {d : D} {v : V} (o : ∀ H, Own K H d v []) (h : tO K (oC d) σ H Q) : tC v σ H Q := by
  obtain ⟨s, Fs, r, s', R, e, q⟩ := h
  cases e
  exact q v H Fs [] R (.refl _ _) (.val ⟨o H, fun _ _ _ z => by cases z⟩) (by intro a h; cases h)
theorem so_int {i : Int} {j : Nat} {pos : Pos} : SimO X (.Constant (.int i) j pos) (oC (.int i)) := pe_imp pe_int fun _ _ _ h => tO_c (fun _ => .int i) h
theorem so_bl {b : Bool} {j : Nat} {pos : Pos} : SimO X (.Constant (.bool b) j pos) (oC (.bool b)) := pe_imp pe_bl fun _ _ _ h => tO_c (fun _ => .bl b) h
theorem so_str {x : Str} {j : Nat} {pos : Pos} : SimO X (.Constant (.str x) j pos) (oC (.str x)) := pe_imp pe_str fun _ _ _ h => tO_c (fun _ => .str x) h
variable {a b c : Expr} {ga gb gc : O} {pos : Pos}
theorem so_bin {op : Operator} {r : R2} {f : List D → Option D} (ho : OpR X (binaryOp op) r) (hp : PrimR X.K (u2 r) f) (ha : SimO X a ga) (hb : SimO X b gb) : SimO X (.BinOp a op b pos) (o2 f ga gb) :=
  pe_imp (pe_op ho ha hb) fun _ _ _ h => by have z := tA2 (prim hp h); exact z
theorem so_un {op : UnaryOp} {r : V → Hp → VK → Prop} {f : List D → Option D} (ho : UnR X (unaryOp op) r) (hp : PrimR X.K (u1 r) f) (ha : SimO X a ga) : SimO X (.UnaryOp op a pos) (o1 f ga) :=
  pe_imp (pe_un ho ha) fun _ _ _ h => by have z := tA1 (prim hp h); exact z
theorem so_cmp {op : CmpOp} {r : R2} {f : List D → Option D} (ho : OpR X (compareOp op) r) (hp : PrimR X.K (u2 r) f) (ha : SimO X a ga) (hb : SimO X b gb) (hm : behindInMarks op b = false) : SimO X (.Compare a [op] [b] pos) (o2 f ga gb) :=
  pe_imp (pe_cmpR ho ha hb hm) fun _ _ _ h => by have z := tA2 (prim hp h); exact z
theorem tT_tst {g : O} {Q : Bool → Hp → Prop} (h : tT K (tst g) σ H Q) : tO K g σ H fun x H1 => ∃ k, x = .bl k ∧ Q k H1 := by
  obtain ⟨s, Fs, b, s', R, e, q⟩ := h
  obtain ⟨r, s1, e1, e⟩ := bind_inv e
  refine ⟨s, Fs, r, s1, R, e1, fun v H1 Fs1 F R1 E1 k1 n1 => ?_⟩
  split at e
  · rename_i b' hb
    cases e
    obtain ⟨F', o⟩ := k1.dp R1 hb
    cases o
    exact ⟨_, rfl, q H1 Fs1 R1 E1⟩
  · cases e
theorem st_cmp {op : CmpOp} {r : R2} {f : List D → Option D} (ho : OpR X (compareOp op) r) (hp : PrimR X.K (u2 r) f) (ha : SimO X a ga) (hb : SimO X b gb) (hm : behindInMarks op b = false) : SimT X (.Compare a [op] [b] pos) (tst (o2 f ga gb)) :=
  pt_imp (pt_cmpR ho ha hb hm) fun _ _ _ h => by have z := tA2 (prim hp (tT_tst h)); exact z
theorem tT_and {t u : T} {Q : Bool → Hp → Prop} (h : tT K (tAnd t u) σ H Q) : L2.tAnd (tT K t) (tT K u) σ H Q := by
  obtain ⟨s, Fs, b, s', R, e, q⟩ := h
  obtain ⟨b1, s1, e1, e⟩ := bind_inv e
  refine ⟨s, Fs, b1, s1, R, e1, fun H1 Fs1 R1 E1 => ?_⟩
  cases b1 with
  | true => exact ⟨s1, Fs1, b, s', R1, e, fun H2 Fs2 R2 E2 => q H2 Fs2 R2 (E1.trans E2)⟩
  | false => cases e; exact q H1 Fs1 R1 E1
/-- and, or, whatever the whole is -/
def SimW (X : Cx) (e : Expr) (g : T) : Prop := PW X e (tT X.K g)
theorem pw_imp {e : Expr} {t t' : TT} (h : PW X e t) (i : ∀ σ H Q, t' σ H Q → t σ H Q) : PW X e t' := ⟨fun wh pins s σ H Q I q => h.run wh pins s σ H Q I (i σ H Q q)⟩
theorem sw_and1 {t : T} (ha : SimT X a t) : SimW X (.BoolOp .And [a] pos) t := pw_and1 ha
theorem sw_and {rest : List Expr} {t u : T} (ha : SimT X a t) (hb : SimW X (.BoolOp .And (b :: rest) pos) u) : SimW X (.BoolOp .And (a :: b :: rest) pos) (tAnd t u) := pw_imp (pw_and ha hb) fun _ _ _ h => tT_and h
theorem st_w {e : Expr} {t : T} (h : SimW X e t) : SimT X e t := PW.pt h
theorem rfs2 {Fs : Fp} {r1 r2 : Rf} {x y : V} {F G : List Addr} (k1 : RfOk K H σ Fs r1 x F) (k2 : RfOk K H σ Fs r2 y G) {s : Sg} (R : RelS K H s σ Fs) {ds : List D} (e : rds [r1, r2] s = some ds) : RdA K H [x, y] ds := by
  unfold rds at e
  split at e
  · cases e
  · rename_i d1 h1
    split at e
    · cases e
    · rename_i es h2
      cases e
      obtain ⟨F1, o1⟩ := k1.dp R h1
      unfold rds at h2
      split at h2
      · cases h2
      · rename_i d2 h3
        cases h2
        obtain ⟨F2, o2⟩ := k2.dp R h3
        exact .cons o1 (.cons o2 .nil)
theorem Rfs.own {s : Sg} {Fs : Fp} (R : RelS K H s σ Fs) {rs : List Rf} {vs : List V} {Gs : List (List Addr)} (r : Rfs K H σ Fs rs vs Gs) : ∀ {ds : List D}, owns rs s = some ds → OwnA K H ds vs Gs.flatten ∧ ∀ i a, a ∈ Fs i → a ∉ Gs.flatten := by
  induction r with
  | nil => intro ds e; cases e; exact ⟨.nil, by simp⟩
  | @val d v F rs vs Gs A n _ ih =>
    intro ds e
    unfold owns at e
    simp only [Sim.own] at e
    split at e
    · cases e
    · rename_i es h
      cases e
      obtain ⟨h1, h2⟩ := ih h
      rw [List.flatten_cons]
      refine ⟨.cons A.own h1 fun a ha hb => ?_, fun i a hi ha => ?_⟩
      · obtain ⟨G, hG, hb⟩ := List.mem_flatten.mp hb
        exact n G hG a ha hb
      · rcases List.mem_append.mp ha with ha | ha
        · exact A.dis i a hi ha
        · exact h2 i a hi ha
  | @slot i v rs vs Gs hv _ ih =>
    intro ds e
    unfold owns at e
    simp only [Sim.own] at e
    split at e
    · cases e
    · rename_i d hd
      split at e
      · cases e
      · rename_i es h
        cases e
        split at hd
        · cases hd
        · rename_i d' hd'
          split at hd
          · rename_i hp
            cases hd
            obtain ⟨h1, h2⟩ := ih h
            obtain ⟨v', hv', o⟩ := R.has i d (join_some hd')
            rw [hv] at hv'
            cases hv'
            have e0 := o.pur hp
            rw [e0] at o
            rw [List.flatten_cons]
            exact ⟨OwnA.cons (F := []) o h1 (by simp), h2⟩
          · cases hd
theorem tO_tup {g : AL} (z : tO K (oTup g) σ H Q) : tTupD (tA K g) σ H Q := by
  obtain ⟨s, Fs, rf, s', R, e, q⟩ := z
  obtain ⟨rs, s1, e1, e⟩ := bind_inv e
  refine ⟨s, Fs, rs, s1, R, e1, fun vs H1 Fs1 Gs R1 E1 k1 n1 => ?_⟩
  split at e
  · cases e
  · rename_i ds hds
    split at e
    · rename_i hl
      cases e
      obtain ⟨o, dj⟩ := k1.own R1 hds
      refine ⟨by rw [o.len]; exact Nat.le_trans hl big_le, fun p ob hp hn => ?_⟩
      have sm : Same H1 (upd H1 p (.frz ob (.tup vs))) := same_new hp
      refine q _ _ Fs1 Gs.flatten (R1.same sm) (E1.trans (.same _ sm)) (.val ⟨.tup (SqD.of upd_same hn) (o.chg (Fa := fun _ => False) (.same sm) fun _ _ z => z), dj⟩) fun a ha => ?_
      obtain ⟨G, hG, hb⟩ := List.mem_flatten.mp ha
      exact n1 G hG a hb
    · cases e
theorem tO_lst {g : AL} (z : tO K (oLst g) σ H Q) : tLst (tA K g) σ H Q := by
  obtain ⟨s, Fs, rf, s', R, e, q⟩ := z
  obtain ⟨rs, s1, e1, e⟩ := bind_inv e
  refine ⟨s, Fs, rs, s1, R, e1, fun vs H1 Fs1 Gs R1 E1 k1 n1 => ?_⟩
  split at e
  · cases e
  · rename_i ds hds
    split at e
    · rename_i hl
      cases e
      obtain ⟨o, dj⟩ := k1.own R1 hds
      refine ⟨by rw [o.len]; exact Nat.le_trans hl big_le, fun p hp => ?_⟩
      have sm : Same H1 (upd H1 p (.lst vs)) := same_new hp
      have np : p ∉ Gs.flatten := fun z => by
        obtain ⟨xs, w⟩ := o.mem p z
        rw [hp] at w; cases w
      refine q _ _ Fs1 (p :: Gs.flatten) (R1.same sm) (E1.trans (.same _ sm)) (.val ⟨.lst upd_same (o.chg (Fa := fun _ => False) (.same sm) fun _ _ z => z) np, fun i a hi ha => ?_⟩) fun a ha => ?_
      · rcases List.mem_cons.mp ha with rfl | ha
        · obtain ⟨xs, w⟩ := R1.mem hi
          rw [hp] at w; cases w
        · exact dj i a hi ha
      · rcases List.mem_cons.mp ha with rfl | ha
        · exact E1.chg.there _ hp
        · obtain ⟨G, hG, hb⟩ := List.mem_flatten.mp ha
          exact n1 G hG a hb
    · cases e
theorem so_tup {es : List Expr} {k : Nat} {g : AL} (h : SimA X es g) : SimO X (.Tuple es k pos) (oTup g) := pe_imp (pe_tupD h) fun _ _ _ h => tO_tup h
theorem so_lst {es : List Expr} {g : AL} (h : SimA X es g) : SimO X (.List es pos) (oLst g) := pe_imp (pe_lst h) fun _ _ _ h => tO_lst h
theorem atI_own {ds : List D} {vs : List V} {F : List Addr} (t : OwnA K H ds vs F) {i : Int} {d : D} (e : puO (atI ds i) = some d) : ∃ v, atI vs i = some v ∧ Own K H d v [] ∧ pur d = true := by
  unfold puO at e
  split at e
  · cases e
  · rename_i d' h
    split at e
    · rename_i hp
      cases e
      unfold atI at h ⊢
      rw [t.len]
      cases hj : ixN ds.length i with
      | none => rw [hj] at h; cases h
      | some j =>
        rw [hj] at h
        obtain ⟨v, G, hv, o, _⟩ := t.get j d h
        have e0 := o.pur hp
        rw [e0] at o
        exact ⟨v, hv, o, hp⟩
    · cases e
theorem pr_ix : PrimR K (u2 (rIx K)) pIx := by
  intro vs ds d H Q h e q
  unfold pIx at e
  split at e
  · obtain ⟨x, y, F, G, rfl, o1, o2⟩ := h.two
    cases o2
    cases o1 with
    | lst h1 t n =>
      obtain ⟨v, hv, o, hp⟩ := atI_own t e
      exact .inl ⟨_, _, _, v, rfl, rfl, SqL.of h1, hv, q _ _ (.sc o)⟩
  · obtain ⟨x, y, F, G, rfl, o1, o2⟩ := h.two
    cases o2
    cases o1 with
    | tup h1 t =>
      obtain ⟨v, hv, o, hp⟩ := atI_own t e
      exact .inr (.inl ⟨_, _, _, v, rfl, rfl, h1.sq, hv, q _ _ (.sc o)⟩)
  · obtain ⟨x, y, F, G, rfl, o1, o2⟩ := h.two
    cases o2
    cases o1 with
    | frz h1 t =>
      obtain ⟨v, hv, o, hp⟩ := atI_own t e
      exact .inl ⟨_, _, _, v, rfl, rfl, h1.sq, hv, q _ _ (.sc o)⟩
  · obtain ⟨x, y, F, G, rfl, o1, o2⟩ := h.two
    cases o2; cases o1
    split at e
    · rename_i hz
      split at e
      · cases e
      · rename_i c hc
        cases e
        exact .inr (.inr ⟨_, _, c, rfl, rfl, Nat.le_trans hz big_le, hc, q _ _ (.sc (.str _))⟩)
    · cases e
  · cases e
theorem so_ix (ha : SimO X a ga) (hb : SimO X b gb) (hs : PlainIx b := by exact fun _ _ => rfl) : SimO X (.Subscript a b pos) (o2 pIx ga gb) := pe_imp (pe_ix ix_seq ha hb hs) fun _ _ _ h => by have z := tA2 (prim pr_ix h); exact z
def SimP (X : Cx) (e : Option Expr) (p : Option O) : Prop :=
  PO X e fun σ H Q => ∃ s Fs o s', RelS X.K H s σ Fs ∧ prt p s = .ok o s' ∧ ∀ H' Fs', RelS X.K H' s' σ Fs' → Ev H Fs H' Fs' → Q o H'
theorem po_imp {e : Option Expr} {t t' : TO} (h : PO X e t) (i : ∀ σ H Q, t' σ H Q → t σ H Q) : PO X e t' := ⟨fun pins s σ H Q I q => h.run pins s σ H Q I (i σ H Q q)⟩
theorem sp_none : SimP X none none := po_imp po_none fun σ H Q ⟨s, Fs, o, s', R, e, q⟩ => by
  cases e
  exact q H Fs R (.refl _ _)
theorem sp_some (ha : SimO X a ga) : SimP X (some a) (some ga) := po_imp (po_some ha) fun σ H Q ⟨s, Fs, o, s', R, e, q⟩ => by
  obtain ⟨r, s1, e1, e⟩ := bind_inv e
  refine ⟨s, Fs, r, s1, R, e1, fun v H1 Fs1 F R1 E1 k1 n1 => ?_⟩
  split at e
  · rename_i i hb
    cases e
    obtain ⟨F', o⟩ := k1.dp R1 hb
    cases o
    exact ⟨_, rfl, q H1 Fs1 R1 E1⟩
  · cases e
theorem so_callB {x : Str} {p : Pos} {e : Expr} {es : List Expr} {g : AL} {id : String} {r : List V → Hp → VK → Prop} {f : List D → Option D} (hc : CallR X (.builtin id) r) (hp : PrimR X.K r f) (hg : Gl X x) (hm : X.mg x = none) (hv : bootBuiltins x = some (.builtin id)) (ha : SimA X (e :: es) g)
    (hn : x ≠ "__name__" := by decide) (hdb : (x == ("__debug__" : Str)) = false := by decide) (he : starEach (e :: es) X.env = (false, eval e X.env) :: starEach es X.env := by rfl) (hpl : (backTo pos (starEach es X.env)).any (·.1) = false := by rfl) :
    SimO X (.Call (.Name x p) (e :: es) [] pos) (oPrim f g) := pe_imp (pe_callB hc hg hm hv ha hn hdb he hpl) fun _ _ _ h => prim hp h
theorem so_callTy {x : Str} {p : Pos} {e : Expr} {es : List Expr} {g : AL} {T : String} {r : List V → Hp → VK → Prop} {f : List D → Option D} (hc : CallR X (.type T) r) (hp : PrimR X.K r f) (hg : Gl X x) (hm : X.mg x = none) (hv : bootBuiltins x = some (.type T)) (ha : SimA X (e :: es) g)
    (hn : x ≠ "__name__" := by decide) (hdb : (x == ("__debug__" : Str)) = false := by decide) (he : starEach (e :: es) X.env = (false, eval e X.env) :: starEach es X.env := by rfl) (hpl : (backTo pos (starEach es X.env)).any (·.1) = false := by rfl) :
    SimO X (.Call (.Name x p) (e :: es) [] pos) (oPrim f g) := pe_imp (pe_callTy hc hg hm hv ha hn hdb he hpl) fun _ _ _ h => prim hp h
end
end Sim
namespace Sim
open PySem PySem.Spec L2
def upF (Fs : Fp) (i : Nat) (F : List Addr) : Fp := fun j => if j = i then F else Fs j
def Lk (lk : Nat → Bool) (σ σ' : St) : Prop := ∀ i, lk i = true → σ'[i]? = σ[i]?
theorem Lk.refl (lk : Nat → Bool) (σ : St) : Lk lk σ σ := fun _ _ => rfl
theorem Lk.trans {lk : Nat → Bool} {σ σ1 σ' : St} (a : Lk lk σ σ1) (b : Lk lk σ1 σ') : Lk lk σ σ' := fun i h => (b i h).trans (a i h)
theorem Lk.set {lk : Nat → Bool} {σ : St} {i : Nat} {v : Option V} (h : lk i = false) : Lk lk σ (σ.set i v) := fun j hj => by
  rw [List.getElem?_set_ne]
  intro e
  subst e
  rw [h] at hj
  cases hj
section
variable {K : PySem.W.Frag} {H H1 H' : Hp} {s s' : Sg} {σ σ' : St} {Fs Fs1 Fs' : Fp}
/-- a slot gets what stands apart -/
theorem RelS.put (R : RelS K H s σ Fs) {d : D} {v : V} {F : List Addr} (A : Apart K H Fs d v F) (i : Nat) : ∃ Fs', RelS K H (s.set i (some d)) (σ.set i (some v)) Fs' ∧ ∀ j a, a ∈ Fs' j → (a ∈ Fs j ∧ j ≠ i) ∨ (a ∈ F ∧ j = i) := by
  by_cases hi : i < s.length
  · refine ⟨upF Fs i F, ⟨by rw [List.length_set, List.length_set, R.len], fun j d' e => ?_, fun j h => ?_, fun j k a h1 h2 => ?_⟩, fun j a h => ?_⟩
    · by_cases hj : j = i
      · subst hj
        rw [List.getElem?_set_self hi] at e
        cases e
        refine ⟨v, by rw [List.getElem?_set_self (by rw [← R.len]; exact hi)], ?_⟩
        unfold upF
        rw [if_pos rfl]
        exact A.own
      · rw [List.getElem?_set_ne (Ne.symm hj)] at e
        obtain ⟨v', hv', o⟩ := R.has j d' e
        refine ⟨v', by rw [List.getElem?_set_ne (Ne.symm hj)]; exact hv', ?_⟩
        unfold upF
        rw [if_neg hj]
        exact o
    · unfold upF
      by_cases hj : j = i
      · subst hj
        exact absurd (List.getElem?_set_self hi) (h d)
      · rw [if_neg hj]
        exact R.off j fun d' e => h d' (by rw [List.getElem?_set_ne (Ne.symm hj)]; exact e)
    · unfold upF at h1 h2
      split at h1
      · split at h2
        · omega
        · exact absurd h1 (A.dis k a h2)
      · split at h2
        · exact absurd h2 (A.dis j a h1)
        · exact R.dis j k a h1 h2
    · unfold upF at h
      split at h
      · exact .inr ⟨h, by assumption⟩
      · exact .inl ⟨h, by assumption⟩
  · have e1 : s.set i (some d) = s := by rw [List.set_eq_of_length_le (by omega)]
    have e2 : σ.set i (some v) = σ := by rw [List.set_eq_of_length_le (by rw [← R.len]; omega)]
    rw [e1, e2]
    refine ⟨Fs, R, fun j a h => .inl ⟨h, ?_⟩⟩
    rintro rfl
    rw [R.off j (fun d e => by rw [List.getElem?_eq_none (by omega)] at e; cases e)] at h
    cases h
/-- a slot is emptied -/
theorem RelS.drop (R : RelS K H s σ Fs) (i : Nat) : RelS K H (s.set i none) σ (upF Fs i []) := by
  refine ⟨by rw [List.length_set, R.len], fun j d' e => ?_, fun j h => ?_, fun j k a h1 h2 => ?_⟩
  · by_cases hj : j = i
    · subst hj
      by_cases hi : j < s.length
      · rw [List.getElem?_set_self hi] at e; cases e
      · rw [List.getElem?_eq_none (by rw [List.length_set]; omega)] at e; cases e
    · rw [List.getElem?_set_ne (Ne.symm hj)] at e
      obtain ⟨v', hv', o⟩ := R.has j d' e
      refine ⟨v', hv', ?_⟩
      unfold upF
      rw [if_neg hj]
      exact o
  · unfold upF
    by_cases hj : j = i
    · rw [if_pos hj]
    · rw [if_neg hj]
      exact R.off j fun d' e => h d' (by rw [List.getElem?_set_ne (Ne.symm hj)]; exact e)
  · unfold upF at h1 h2
    split at h1
    · cases h1
    · split at h2
      · cases h2
      · exact R.dis j k a h1 h2
/-- the list of a slot is written -/
theorem RelS.wr (R : RelS K H s σ Fs) {i : Nat} {ds ds' : List D} {l : Addr} {vs vs' : List V} {F F' Fd : List Addr} (e : s[i]? = some (some (.list ds))) (ev : σ[i]? = some (some (.ref l))) (hl : H l = some (.lst vs)) (eF : Fs i = l :: F)
    (o : OwnA K H ds' vs' F') (n : l ∉ F') (hF : ∀ a, a ∈ F' → a ∈ F ∨ a ∈ Fd) (hd : ∀ j a, a ∈ Fs j → a ∉ Fd) :
    ∃ Fs', RelS K (upd H l (.lst vs')) (s.set i (some (.list ds'))) σ Fs' ∧ Chg (InF Fs) H (upd H l (.lst vs')) ∧ ∀ j a, a ∈ Fs' j → a ∈ Fs j ∨ a ∈ Fd := by
  have hi : i < s.length := by
    rcases Nat.lt_or_ge i s.length with h | h
    · exact h
    · rw [List.getElem?_eq_none h] at e; cases e
  have li : l ∈ Fs i := by rw [eF]; exact List.mem_cons_self ..
  have chg : Chg (fun a => a = l) H (upd H l (.lst vs')) := ⟨fun a ob e c => by
    by_cases ha : a = l
    · subst ha
      rcases c with c | c
      · exact absurd rfl c
      · rw [hl] at e
        cases e
        cases c
    · rw [upd_ne ha]; exact e, fun a e => by
    by_cases ha : a = l
    · subst ha; rw [upd_same] at e; cases e
    · rw [upd_ne ha] at e; exact e⟩
  refine ⟨upF Fs i (l :: F'), ⟨by rw [List.length_set, R.len], fun j d' e' => ?_, fun j h => ?_, fun j k a h1 h2 => ?_⟩, ⟨fun a ob e c => chg.keep a ob e (c.imp (fun z w => z ⟨i, by rw [w]; exact li⟩) id), chg.there⟩, fun j a h => ?_⟩
  · by_cases hj : j = i
    · subst hj
      rw [List.getElem?_set_self hi] at e'
      cases e'
      refine ⟨_, ev, ?_⟩
      unfold upF
      rw [if_pos rfl]
      exact .lst upd_same (o.chg chg fun a ha w => n (by rw [← w]; exact ha)) n
    · rw [List.getElem?_set_ne (Ne.symm hj)] at e'
      obtain ⟨v', hv', o'⟩ := R.has j d' e'
      refine ⟨v', hv', ?_⟩
      unfold upF
      rw [if_neg hj]
      exact o'.chg chg fun a ha w => hj (R.dis j i l (by rw [← w]; exact ha) li)
  · unfold upF
    by_cases hj : j = i
    · subst hj
      exact absurd (List.getElem?_set_self hi) (h _)
    · rw [if_neg hj]
      exact R.off j fun d' e => h d' (by rw [List.getElem?_set_ne (Ne.symm hj)]; exact e)
  · have key : ∀ {m : Nat}, m ≠ i → a ∈ l :: F' → a ∈ Fs m → False := fun {m} hm g1 g2 => by
      rcases List.mem_cons.mp g1 with e3 | g1
      · exact hm (R.dis m i a g2 (by rw [e3]; exact li))
      · rcases hF a g1 with q | q
        · exact hm (R.dis m i a g2 (by rw [eF]; exact List.mem_cons_of_mem _ q))
        · exact hd m a g2 q
    by_cases hj : j = i
    · by_cases hk : k = i
      · omega
      · unfold upF at h1 h2
        rw [if_pos hj] at h1
        rw [if_neg hk] at h2
        exact (key hk h1 h2).elim
    · by_cases hk : k = i
      · unfold upF at h1 h2
        rw [if_neg hj] at h1
        rw [if_pos hk] at h2
        exact (key hj h2 h1).elim
      · unfold upF at h1 h2
        rw [if_neg hj] at h1
        rw [if_neg hk] at h2
        exact R.dis j k a h1 h2
  · unfold upF at h
    split at h
    · rename_i hj
      subst hj
      rcases List.mem_cons.mp h with rfl | h
      · exact .inl li
      · rcases hF a h with q | q
        · exact .inl (by rw [eF]; exact List.mem_cons_of_mem _ q)
        · exact .inr q
    · exact .inl h
theorem own_list {H : Hp} {ds : List D} {v : V} {G : List Addr} (h : Own K H (.list ds) v G) : ∃ l vs F, v = .ref l ∧ G = l :: F ∧ H l = some (.lst vs) ∧ OwnA K H ds vs F ∧ l ∉ F := by
  cases h with
  | lst h1 t n => exact ⟨_, _, _, rfl, rfl, h1, t, n⟩
theorem own_tup {H : Hp} {ds : List D} {v : V} {G : List Addr} (h : Own K H (.tuple ds) v G) : ∃ a vs, v = .ref a ∧ SqT K H a vs ∧ OwnA K H ds vs G := by
  cases h with
  | tup h1 t => exact ⟨_, _, rfl, h1.sq, t⟩
theorem OwnA.snoc {H : Hp} {d : D} {v : V} {G : List Addr} (o : Own K H d v G) : ∀ {ds : List D} {vs : List V} {F : List Addr}, OwnA K H ds vs F → (∀ a, a ∈ F → a ∉ G) → ∃ F', OwnA K H (ds ++ [d]) (vs ++ [v]) F' ∧ ∀ a, a ∈ F' → a ∈ F ∨ a ∈ G
  | [], _, _, t, _ => by
    cases t
    refine ⟨G ++ [], .cons o .nil (by simp), fun a h => ?_⟩
    rw [List.append_nil] at h
    exact .inr h
  | d' :: ds, _, _, t, n => by
    cases t with
    | @cons v' vs _ _ F1 F2 o' t n' =>
      obtain ⟨F', h1, h2⟩ := OwnA.snoc o t fun a ha => n a (List.mem_append_right _ ha)
      refine ⟨F1 ++ F', .cons o' h1 fun a ha hb => ?_, fun a h => ?_⟩
      · rcases h2 a hb with q | q
        · exact n' a ha q
        · exact n a (List.mem_append_left _ ha) q
      · rcases List.mem_append.mp h with q | q
        · exact .inl (List.mem_append_left _ q)
        · rcases h2 a q with q | q
          · exact .inl (List.mem_append_right _ q)
          · exact .inr q
theorem OwnA.put {H : Hp} {d : D} {v : V} (o : Own K H d v []) : ∀ {ds : List D} {vs : List V} {F : List Addr} (j : Nat), OwnA K H ds vs F → ∃ F', OwnA K H (ds.set j d) (vs.set j v) F' ∧ ∀ a, a ∈ F' → a ∈ F
  | [], _, _, _, t => by
    cases t
    exact ⟨[], .nil, by simp⟩
  | d' :: ds, _, _, 0, t => by
    cases t with
    | @cons v' vs _ _ F1 F2 o' t n' => exact ⟨[] ++ F2, .cons o t (by simp), fun a h => List.mem_append_right _ (by simpa using h)⟩
  | d' :: ds, _, _, j + 1, t => by
    cases t with
    | @cons v' vs _ _ F1 F2 o' t n' =>
      obtain ⟨F', h1, h2⟩ := OwnA.put o j t
      refine ⟨F1 ++ F', .cons o' h1 fun a ha hb => n' a ha (h2 a hb), fun a h => ?_⟩
      rcases List.mem_append.mp h with q | q
      · exact List.mem_append_left _ q
      · exact List.mem_append_right _ (h2 a q)
end
inductive Tg where
  | nm (i : Nat)
  | tp (l : List Tg)
  | ls (l : List Tg)
mutual
def asg : Tg → D → Sg → Option Sg
  | .nm i, d, s => some (s.set i (some d))
  | .tp l, .tuple ds, s => asgs l ds s
  | .tp _, _, _ => none
  | .ls l, .list ds, s => asgs l ds s
  | .ls _, _, _ => none
def asgs : List Tg → List D → Sg → Option Sg
  | [], [], s => some s
  | t :: l, d :: ds, s => match asg t d s with
    | none => none
    | some s1 => asgs l ds s1
  | _, _, _ => none
end
section
variable (K : PySem.W.Frag) (lk : Nat → Bool)
def tG (t : Tg) : TG := fun v σ H Q => ∃ s Fs d F s', RelS K H s σ Fs ∧ Apart K H Fs d v F ∧ asg t d s = some s' ∧ ∀ σ' Fs', RelS K H s' σ' Fs' → (∀ i a, a ∈ Fs' i → a ∈ Fs i ∨ a ∈ F) → Lk lk σ σ' → Q σ' H
def tGs (l : List Tg) : TGs := fun vs σ H Q => ∃ s Fs ds F s', RelS K H s σ Fs ∧ OwnA K H ds vs F ∧ (∀ i a, a ∈ Fs i → a ∉ F) ∧ asgs l ds s = some s' ∧ ∀ σ' Fs', RelS K H s' σ' Fs' → (∀ i a, a ∈ Fs' i → a ∈ Fs i ∨ a ∈ F) → Lk lk σ σ' → Q σ' H
end
def SimG (X : Cx) (lk : Nat → Bool) (e : Expr) (t : Tg) : Prop := PG X e (tG X.K lk t)
def SimGs (X : Cx) (lk : Nat → Bool) (es : List Expr) (l : List Tg) : Prop := PGs X es (tGs X.K lk l)
section
variable {X : Cx} {lk : Nat → Bool} {pos : Pos} {K : PySem.W.Frag}
theorem pg_imp {e : Expr} {t t' : TG} (h : PG X e t) (i : ∀ v σ H Q, t' v σ H Q → t v σ H Q) : PG X e t' := ⟨fun pins s σ H v u Q I r q => h.run pins s σ H v u Q I r (i v σ H Q q)⟩
theorem pgs_imp {e : List Expr} {t t' : TGs} (h : PGs X e t) (i : ∀ v σ H Q, t' v σ H Q → t v σ H Q) : PGs X e t' := ⟨fun pins s σ H v u Q I r q => h.run pins s σ H v u Q I r (i v σ H Q q)⟩
theorem tG_nm {i : Nat} (hl : lk i = false) {v : V} {σ : St} {H : Hp} {Q : St → Hp → Prop} (h : tG K lk (.nm i) v σ H Q) : gName i v σ H Q := by
  obtain ⟨s, Fs, d, F, s', R, A, e, q⟩ := h
  simp only [asg] at e
  cases e
  obtain ⟨Fs', R', n⟩ := R.put A i
  exact q _ Fs' R' (fun j a h => (n j a h).imp And.left And.left) (.set hl)
theorem sg_name {i : Nat} {x : Str} (hN : X.N.Nodup) (hi : X.N[i]? = some x) (hx : Loc X.env.scope x) (hl : lk i = false) (hf : X.fn x = true ∨ X.env.scope.names.lookup x = some .local := by first | exact .inl rfl | exact .inr rfl | assumption) : SimG X lk (.Name x pos) (.nm i) :=
  pg_imp (pg_name hN hi hx hf) fun _ _ _ _ h => tG_nm hl h
theorem tGs_nil {vs : List V} {σ : St} {H : Hp} {Q : St → Hp → Prop} (h : tGs K lk [] vs σ H Q) : gNil vs σ H Q := by
  obtain ⟨s, Fs, ds, F, s', R, o, dj, e, q⟩ := h
  cases ds with
  | nil =>
    simp only [asgs] at e
    cases e
    cases o
    exact ⟨rfl, q σ Fs R (fun _ _ h => .inl h) (.refl _ _)⟩
  | cons d ds => simp [asgs] at e
theorem tGs_cons {t : Tg} {l : List Tg} {vs : List V} {σ : St} {H : Hp} {Q : St → Hp → Prop} (h : tGs K lk (t :: l) vs σ H Q) : gCons (tG K lk t) (tGs K lk l) vs σ H Q := by
  obtain ⟨s, Fs, ds, F, s', R, o, dj, e, q⟩ := h
  cases ds with
  | nil => simp [asgs] at e
  | cons d ds =>
    simp only [asgs] at e
    split at e
    · cases e
    · rename_i s1 h1
      cases o with
      | @cons v vs _ _ F1 F2 o1 o2 n =>
        refine ⟨v, vs, rfl, s, Fs, d, F1, s1, R, ⟨o1, fun i a hi ha => dj i a hi (List.mem_append_left _ ha)⟩, h1, fun σ1 Fs1 R1 n1 L1 => ⟨s1, Fs1, ds, F2, s', R1, o2, fun i a hi ha => ?_, e, fun σ2 Fs2 R2 n2 L2 => ?_⟩⟩
        · rcases n1 i a hi with z | z
          · exact dj i a z (List.mem_append_right _ ha)
          · exact n a z ha
        · refine q σ2 Fs2 R2 (fun i a h => ?_) (L1.trans L2)
          rcases n2 i a h with z | z
          · rcases n1 i a z with z | z
            · exact .inl z
            · exact .inr (List.mem_append_left _ z)
          · exact .inr (List.mem_append_right _ z)
theorem sgs_nil : SimGs X lk [] [] := pgs_imp pgs_nil fun _ _ _ _ h => tGs_nil h
theorem sgs_cons {e : Expr} {es : List Expr} {t : Tg} {l : List Tg} (h1 : SimG X lk e t) (h2 : SimGs X lk es l) (hs : (assignEach (e :: es) X.env).map (·.2) = assign e X.env :: (assignEach es X.env).map (·.2) := by rfl) : SimGs X lk (e :: es) (t :: l) :=
  pgs_imp (pgs_cons h1 h2 hs) fun _ _ _ _ h => tGs_cons h
theorem asgs_len {l : List Tg} : ∀ {ds : List D} {s s' : Sg}, asgs l ds s = some s' → ds.length = l.length := by
  induction l with
  | nil => intro ds s s' h; cases ds with
    | nil => rfl
    | cons d ds => simp [asgs] at h
  | cons t l ih => intro ds s s' h; cases ds with
    | nil => simp [asgs] at h
    | cons d ds =>
      simp only [asgs] at h
      split at h
      · cases h
      · rw [List.length_cons, List.length_cons, ih h]
theorem sg_tup {es : List Expr} {k : Nat} {l : List Tg} (hc : X.calm = true) (h : SimGs X lk es l) (hn : (assignEach es X.env).length = l.length := by rfl) (hst : (assignEach es X.env).findIdx? (·.1) = none := by rfl) : SimG X lk (.Tuple es k pos) (.tp l) := by
  refine pg_imp (pg_tup hc h hn hst) fun v σ H Q z => ?_
  obtain ⟨s, Fs, d, F, s', R, A, e, q⟩ := z
  cases d with
  | tuple ds =>
    simp only [asg] at e
    obtain ⟨a, vs, rfl, hq, o⟩ := own_tup A.own
    exact ⟨a, vs, rfl, hq, by rw [o.len, asgs_len e], s, Fs, ds, F, s', R, o, A.dis, e, q⟩
  | _ => simp [asg] at e
end
section
variable (K : PySem.W.Frag) (lk : Nat → Bool)
def PostS (D : Ends) (σ : St) (H : Hp) (Fs : Fp) (s' : Sg) (fl : Fl) : Prop := match fl with
  | .nx => ∀ σ' H' Fs', RelS K H' s' σ' Fs' → Ev H Fs H' Fs' → Lk lk σ σ' → D.nx σ' H'
  | .bk => ∀ σ' H' Fs', RelS K H' s' σ' Fs' → Ev H Fs H' Fs' → Lk lk σ σ' → D.bk σ' H'
  | .ct => ∀ σ' H' Fs', RelS K H' s' σ' Fs' → Ev H Fs H' Fs' → Lk lk σ σ' → D.ct σ' H'
  | .rt d => ∀ v σ' H' Fs' F, RelS K H' s' σ' Fs' → Ev H Fs H' Fs' → Lk lk σ σ' → Own K H' d v F → (∀ a, a ∈ F → H a = none ∨ ∃ i, lk i = false ∧ a ∈ Fs i) → (∀ i a, lk i = true → a ∈ Fs' i → a ∉ F) → D.rt v H'
def tS (g : S) : TS := fun D σ H => ∃ s Fs fl s', RelS K H s σ Fs ∧ g s = .ok fl s' ∧ PostS K lk D σ H Fs s' fl
end
def SimS (X : Cx) (lk : Nat → Bool) (st : Stmt) (g : S) : Prop := PS X st (tS X.K lk g)
def SimSs (X : Cx) (lk : Nat → Bool) (st : List Stmt) (g : S) : Prop := PSs X st (tS X.K lk g)
theorem ps_imp {X : Cx} {e : Stmt} {t t' : TS} (h : PS X e t) (i : ∀ D σ H, t' D σ H → t D σ H) : PS X e t' := ⟨fun pins s σ H D I q => h.run pins s σ H D I (i D σ H q)⟩
theorem pss_imp {X : Cx} {e : List Stmt} {t t' : TS} (h : PSs X e t) (i : ∀ D σ H, t' D σ H → t D σ H) : PSs X e t' := ⟨fun pins s σ H D I q => h.run pins s σ H D I (i D σ H q)⟩
def sSkip : S := fun s => .ok .nx s
def sSeq (g h : S) : S := fun s => (g s).bind fun fl s1 => match fl with
  | .nx => h s1
  | fl => .ok fl s1
def sExpr (g : O) : S := fun s => (g s).bind fun _ s1 => .ok .nx s1
def sRet (lk : Nat → Bool) (g : O) : S := fun s => (g s).bind fun r s1 => match r with
  | .val d => .ok (.rt d) s1
  | .slot i => match (s1[i]?).join with
    | none => .bad
    | some d => if pur d = true ∨ lk i = false then .ok (.rt d) s1 else .bad
def sRetN : S := fun s => .ok (.rt .none) s
def sBreak : S := fun s => .ok .bk s
def sCont : S := fun s => .ok .ct s
def sIf (t : T) (g h : S) : S := fun s => (t s).bind fun b s1 => if b = true then g s1 else h s1
def sAsg (t : Tg) (g : O) : S := fun s => (g s).bind fun r s1 => match own r s1 with
  | none => .bad
  | some d => match asg t d s1 with
    | none => .bad
    | some s2 => .ok .nx s2
def sSet (i : Nat) (g : O) : S := sAsg (.nm i) g
/-- x[k] = e -/
def sSetIx (i : Nat) (gi g : O) : S := fun s => (g s).bind fun r s1 => (oV i s1).bind fun _ s1 => (gi s1).bind fun ri s2 => match own r s2, rd ri s2, (s2[i]?).join with
  | some d, some (.int k), some (.list ds) => if pur d = true then (match ixN ds.length k with
    | none => .bad
    | some j => .ok .nx (s2.set i (some (.list (ds.set j d))))) else .bad
  | _, _, _ => .bad
section
variable {X : Cx} {lk : Nat → Bool} {pos : Pos} {K : PySem.W.Frag} {g h : S} {D : Ends} {σ : St} {H : Hp} {ga gb : O} {e : Expr}
theorem ss_nil : SimSs X lk [] sSkip := pss_imp pss_nil fun D σ H ⟨s, Fs, fl, s', R, e, q⟩ => by
  cases e
  exact q σ H Fs R (.refl _ _) (.refl _ _)
/-- what follows a first part -/
theorem tS_after {s : Sg} {Fs Fs1 : Fp} {σ1 : St} {H1 : Hp} {s1 s' : Sg} {fl : Fl} (R1 : RelS K H1 s1 σ1 Fs1) (E1 : Ev H Fs H1 Fs1) (L1 : Lk lk σ σ1) (e : h s1 = .ok fl s')
    (q : PostS K lk D σ H Fs s' fl) :
    tS K lk h D σ1 H1 := by
  refine ⟨s1, Fs1, fl, s', R1, e, ?_⟩
  cases fl with
  | nx => exact fun σ' H' Fs' R' E' L' => q σ' H' Fs' R' (E1.trans E') (L1.trans L')
  | bk => exact fun σ' H' Fs' R' E' L' => q σ' H' Fs' R' (E1.trans E') (L1.trans L')
  | ct => exact fun σ' H' Fs' R' E' L' => q σ' H' Fs' R' (E1.trans E') (L1.trans L')
  | rt d =>
    refine fun v σ' H' Fs' F R' E' L' o n m => q v σ' H' Fs' F R' (E1.trans E') (L1.trans L') o (fun a ha => ?_) m
    rcases n a ha with z | ⟨i, hi, z⟩
    · exact .inl (E1.chg.there a z)
    · rcases E1.new i a z with z | z
      · exact .inr ⟨i, hi, z⟩
      · exact .inl z
theorem tS_seq (z : tS K lk (sSeq g h) D σ H) : tSeq (tS K lk g) (tS K lk h) D σ H := by
  obtain ⟨s, Fs, fl, s', R, e, q⟩ := z
  obtain ⟨f1, s1, e1, e⟩ := bind_inv e
  refine ⟨s, Fs, f1, s1, R, e1, ?_⟩
  cases f1 with
  | nx => exact fun σ1 H1 Fs1 R1 E1 L1 => tS_after (s := s) R1 E1 L1 e q
  | bk => cases e; exact q
  | ct => cases e; exact q
  | rt d => cases e; exact q
theorem ss_cons {st : Stmt} {rest : List Stmt} (h1 : SimS X lk st g) (h2 : SimSs X lk rest h) : SimSs X lk (st :: rest) (sSeq g h) := pss_imp (pss_cons h1 h2) fun _ _ _ z => tS_seq z
theorem ss_one {st : Stmt} (h1 : SimS X lk st g) : SimSs X lk [st] g := pss_one h1
theorem ss_expr (he : SimO X e ga) (hs : swapsWith e none pos.line X.env = pure false := by rfl) : SimS X lk (.Expr e pos) (sExpr ga) := by
  refine ps_imp (ps_expr he hs) fun D σ H z => ?_
  obtain ⟨s, Fs, fl, s', R, e, q⟩ := z
  obtain ⟨r, s1, e1, e⟩ := bind_inv e
  refine ⟨s, Fs, r, s1, R, e1, fun v H1 Fs1 F R1 E1 k1 n1 => ?_⟩
  cases e
  exact q σ H1 Fs1 R1 E1 (.refl _ _)
theorem ss_ret (he : SimO X e ga) : SimS X lk (.Return (some e) pos) (sRet lk ga) := by
  refine ps_imp (ps_ret he) fun D σ H z => ?_
  obtain ⟨s, Fs, fl, s', R, e, q⟩ := z
  obtain ⟨r, s1, e1, e⟩ := bind_inv e
  refine ⟨s, Fs, r, s1, R, e1, fun v H1 Fs1 F R1 E1 k1 n1 => ?_⟩
  cases k1 with
  | val A =>
    cases e
    exact q v σ H1 Fs1 F R1 E1 (.refl _ _) A.own (fun a ha => .inl (n1 a ha)) fun i a _ hi ha => A.dis i a hi ha
  | @slot i v hv =>
    simp only at e
    split at e
    · cases e
    · rename_i d hd
      split at e
      · rename_i hp
        cases e
        obtain ⟨v', hv', o⟩ := R1.has i d (join_some hd)
        rw [hv] at hv'
        cases hv'
        refine q v σ H1 Fs1 (Fs1 i) R1 E1 (.refl _ _) o (fun a ha => ?_) fun j a hj hi ha => ?_
        · rcases hp with hp | hp
          · rw [o.pur hp] at ha; cases ha
          · rcases E1.new i a ha with z | z
            · exact .inr ⟨i, hp, z⟩
            · exact .inl z
        · rcases hp with hp | hp
          · rw [o.pur hp] at ha; cases ha
          · have := R1.dis j i a hi ha
            subst this
            rw [hp] at hj; cases hj
      · cases e
theorem ss_if {c : Expr} {as bs : List Stmt} {t : T} (hc : SimT X c t) (ha : SimSs X lk as g) (hb : SimSs X lk bs h) : SimS X lk (.If c as bs pos) (sIf t g h) := by
  refine ps_imp (ps_if hc ha hb) fun D σ H z => ?_
  obtain ⟨s, Fs, fl, s', R, e, q⟩ := z
  obtain ⟨b, s1, e1, e⟩ := bind_inv e
  refine ⟨s, Fs, b, s1, R, e1, fun H1 Fs1 R1 E1 => ?_⟩
  cases b with
  | true => exact iteT (tS_after (s := s) R1 E1 (.refl _ _) e q)
  | false => exact iteF (tS_after (s := s) R1 E1 (.refl _ _) e q)
theorem rfOk_own {Fs : Fp} {r : Rf} {v : V} {F : List Addr} {s : Sg} {d : Sim.D} (k : RfOk K H σ Fs r v F) (R : RelS K H s σ Fs) (e : own r s = some d) : Apart K H Fs d v F := by
  cases k with
  | val A => cases e; exact A
  | @slot i v hv =>
    simp only [own] at e
    split at e
    · cases e
    · rename_i d' hd
      split at e
      · rename_i hp
        cases e
        obtain ⟨v', hv', o⟩ := R.has i d (join_some hd)
        rw [hv] at hv'
        cases hv'
        rw [o.pur hp] at o
        exact ⟨o, fun _ _ _ z => by cases z⟩
      · cases e
theorem tS_asg {t : Tg} (z : tS K lk (sAsg t ga) D σ H) : tAsg (tO K ga) (tG K lk t) D σ H := by
  obtain ⟨s, Fs, fl, s', R, e, q⟩ := z
  obtain ⟨r, s1, e1, e⟩ := bind_inv e
  refine ⟨s, Fs, r, s1, R, e1, fun v H1 Fs1 F R1 E1 k1 n1 => ?_⟩
  split at e
  · cases e
  · rename_i d hd
    split at e
    · cases e
    · rename_i s2 hs2
      cases e
      refine ⟨s1, Fs1, d, F, _, R1, rfOk_own k1 R1 hd, hs2, fun σ2 Fs2 R2 n2 L2 => q σ2 H1 Fs2 R2 ⟨E1.chg, fun i a h => ?_⟩ L2⟩
      rcases n2 i a h with z | z
      · exact E1.new i a z
      · exact .inr (n1 a z)
theorem ss_asg {tg : Expr} {t : Tg} (he : SimO X e ga) (hg : SimG X lk tg t) (hs : swapsWithSole [tg] e pos.line X.env = pure false := by rfl) (hw : swappedStores [tg] e X.env = pure none := by rfl)
    (h1 : (assignEach [tg] X.env).map (·.2) = [assign tg X.env] := by rfl) : SimS X lk (.Assign [tg] e pos) (sAsg t ga) := ps_imp (ps_asg he hg hs hw h1) fun _ _ _ z => tS_asg z
theorem ss_set {i : Nat} {x : Str} {pos' : Pos} (hN : X.N.Nodup) (hi : X.N[i]? = some x) (hx : Loc X.env.scope x) (hl : lk i = false) (he : SimO X e ga) (hs : swapsWith e (some (.Name x pos')) pos.line X.env = pure false := by rfl) (hf : X.fn x = true ∨ X.env.scope.names.lookup x = some .local := by first | exact .inl rfl | exact .inr rfl | assumption) :
    SimS X lk (.Assign [.Name x pos'] e pos) (sSet i ga) := ps_imp (ps_set hN hi hx he hs hf) fun D σ H z => tO_mono (fun v H h => by have w := tG_nm hl h; exact w) (tS_asg z)
theorem ss_setIx {i : Nat} {x : Str} {ix : Expr} {p1 p2 : Pos} (hv : PE X (.Name x p1) (tVar i)) (hix : SimO X ix gb) (he : SimO X e ga)
    (ha : ∀ v, assign (.Subscript (.Name x p1) ix p2) X.env v = (do
      let ov ← holding [v] (eval (.Name x p1) X.env)
      let iv ← holding [v, ov] (eval ix X.env)
      standAt p2
      holding [v, ov, iv] (setItem ov iv v)
      release [v, ov, iv] []) := by intro _; rfl)
    (hs : swapsWithSole [.Subscript (.Name x p1) ix p2] e pos.line X.env = pure false := by rfl) (hw : swappedStores [.Subscript (.Name x p1) ix p2] e X.env = pure none := by rfl)
    (h1 : (assignEach [.Subscript (.Name x p1) ix p2] X.env).map (·.2) = [assign (.Subscript (.Name x p1) ix p2) X.env] := by rfl) : SimS X lk (.Assign [.Subscript (.Name x p1) ix p2] e pos) (sSetIx i gb ga) := by
  refine ps_imp (ps_asg he (pg_sub hv hix set_list ha) hs hw h1) fun D σ H z => ?_
  obtain ⟨s, Fs, fl, s', R, e, q⟩ := z
  obtain ⟨r, s1, e1, e⟩ := bind_inv e
  refine ⟨s, Fs, r, s1, R, e1, fun v H1 Fs1 F R1 E1 k1 n1 => ?_⟩
  obtain ⟨rv, s1', e1', e⟩ := bind_inv e
  unfold oV at e1'
  split at e1'
  · rename_i d0 hd0
    cases e1'
    obtain ⟨vl, hvl, _⟩ := R1.has i d0 (join_some hd0)
    refine ⟨vl, hvl, ?_⟩
    obtain ⟨ri, s2, e2, e⟩ := bind_inv e
    refine ⟨s1, Fs1, ri, s2, R1, e2, fun vi H2 Fs2 F2 R2 E2 k2 n2 => ?_⟩
    split at e
    · rename_i d k ds hd hk hs2
      split at e
      · rename_i hp
        split at e
        · cases e
        · rename_i j hj
          cases e
          obtain ⟨vl', hvl', o⟩ := R2.has i _ (join_some hs2)
          rw [hvl] at hvl'
          cases hvl'
          obtain ⟨l, vs, F0, rfl, eF, hl, t, nl⟩ := own_list o
          obtain ⟨F', oi⟩ := k2.dp R2 hk
          cases oi
          have A := rfOk_own (k1.ev E2) R2 hd
          have o1 := A.own
          rw [o1.pur hp] at o1
          obtain ⟨F3, t3, hF3⟩ := OwnA.put o1 j t
          refine ⟨l, vs, k, j, rfl, rfl, hl, by rw [t.len]; exact hj, ?_⟩
          obtain ⟨Fs3, R3, C3, n3⟩ := R2.wr (join_some hs2) hvl hl eF t3 (fun z => nl (hF3 _ z)) (fun a ha => .inl (hF3 a ha)) (Fd := []) (by simp)
          refine q σ _ Fs3 R3 ((E1.trans E2).trans ⟨C3, fun j a h => (n3 j a h).imp id (fun z => by cases z)⟩) (.refl _ _)
      · cases e
    · cases e
  · cases e1'
end
end Sim
namespace Sim
open PySem PySem.Spec L2
def lks : List Rf → List D → List (Nat × D)
  | .slot i :: rs, d :: ds => if pur d = true then lks rs ds else (i, d) :: lks rs ds
  | .val _ :: rs, _ :: ds => lks rs ds
  | _, _ => []
def lockS : List (Nat × D) → Sg → Sg
  | [], s => s
  | p :: l, s => lockS l (s.set p.1 none)
def unlockS : List (Nat × D) → Sg → Sg
  | [], s => s
  | p :: l, s => unlockS l (s.set p.1 (some p.2))
def nodupB : List Nat → Bool
  | [] => true
  | x :: l => !l.contains x && nodupB l
/-- what is closed, stands apart -/
inductive Hid (K : PySem.W.Frag) (H : Hp) (σ : St) (Fs : Fp) : List (Nat × D) → List (List Addr) → Prop
  | nil : Hid K H σ Fs [] []
  | cons {i : Nat} {d : D} {v : V} {F : List Addr} {l : List (Nat × D)} {Gs : List (List Addr)} : σ[i]? = some (some v) → Apart K H Fs d v F → (∀ G, G ∈ Gs → ∀ a, a ∈ F → a ∉ G) → Hid K H σ Fs l Gs → Hid K H σ Fs ((i, d) :: l) (F :: Gs)
/-- where what is closed comes from -/
def From (H0 : Hp) (Fs0 : Fp) : List (Nat × D) → List (List Addr) → Prop
  | [], [] => True
  | p :: l, F :: Gs => (∀ a, a ∈ F → a ∈ Fs0 p.1 ∨ H0 a = none) ∧ From H0 Fs0 l Gs
  | _, _ => False
section
variable {K : PySem.W.Frag} {H H1 H' H0 : Hp} {s s' : Sg} {σ σ' : St} {Fs Fs1 Fs' Fs0 : Fp} {l : List (Nat × D)} {Gs : List (List Addr)}
theorem Hid.ev (h : Hid K H σ Fs l Gs) (e : Ev H Fs H' Fs') (L : ∀ p, p ∈ l → σ'[p.1]? = σ[p.1]?) : Hid K H' σ' Fs' l Gs := by
  induction h with
  | nil => exact .nil
  | @cons i d v F l Gs hv A n _ ih =>
    exact .cons ((L _ (List.mem_cons_self ..)).trans hv) (A.ev e) n (ih fun p hp => L p (List.mem_cons_of_mem _ hp))
theorem Hid.mem (h : Hid K H σ Fs l Gs) : ∀ G, G ∈ Gs → ∀ a, a ∈ G → (∃ xs : MO, H a = some xs.ho) ∧ ∀ i, a ∉ Fs i := by
  induction h with
  | nil => intro G h; cases h
  | cons hv A n _ ih =>
    intro G h a ha
    rcases List.mem_cons.mp h with rfl | h
    · exact ⟨A.own.mem a ha, fun i hi => A.dis i a hi ha⟩
    · exact ih G h a ha
theorem From.trans (h : From H Fs l Gs) (e : ∀ i a, a ∈ Fs i → a ∈ Fs0 i ∨ H0 a = none) (t : ∀ a, H a = none → H0 a = none) : From H0 Fs0 l Gs := by
  induction l generalizing Gs with
  | nil => cases Gs with
    | nil => trivial
    | cons _ _ => exact h.elim
  | cons p l ih => cases Gs with
    | nil => exact h.elim
    | cons F Gs =>
      refine ⟨fun a ha => ?_, ih h.2⟩
      rcases h.1 a ha with z | z
      · exact e _ a z
      · exact .inr (t a z)
theorem nodupB_cons {x : Nat} {l : List Nat} (h : nodupB (x :: l) = true) : x ∉ l ∧ nodupB l = true := by
  simp only [nodupB, Bool.and_eq_true, Bool.not_eq_true', List.contains_eq_mem, decide_eq_false_iff_not] at h
  exact h
theorem RelS.lock (R : RelS K H s σ Fs) (hs : ∀ p, p ∈ l → s[p.1]? = some (some p.2)) (nd : nodupB (l.map (·.1)) = true) :
    ∃ Fs' Gs, RelS K H (lockS l s) σ Fs' ∧ Hid K H σ Fs' l Gs ∧ (∀ j a, a ∈ Fs' j → a ∈ Fs j) ∧ From H Fs l Gs := by
  induction l generalizing s Fs with
  | nil => exact ⟨Fs, [], R, .nil, fun _ _ h => h, trivial⟩
  | cons p l ih =>
    obtain ⟨n1, n2⟩ := nodupB_cons nd
    obtain ⟨v, hv, o⟩ := R.has p.1 p.2 (hs p (List.mem_cons_self ..))
    obtain ⟨Fs', Gs, R', hd, sub, fr⟩ := ih (R.drop p.1) (fun q hq => by
      rw [List.getElem?_set_ne]
      · exact hs q (List.mem_cons_of_mem _ hq)
      · intro e
        refine n1 ?_
        show p.1 ∈ _
        rw [e]
        exact List.mem_map_of_mem (f := fun x : Nat × D => x.1) hq) n2
    have sub2 : ∀ j a, a ∈ upF Fs p.1 [] j → a ∈ Fs j ∧ j ≠ p.1 := fun j a h => by
      unfold upF at h
      split at h
      · cases h
      · exact ⟨h, by assumption⟩
    refine ⟨Fs', Fs p.1 :: Gs, R', .cons hv ⟨o, fun i a hi ha => ?_⟩ (fun G hG a ha hb => ?_) hd, fun j a h => (sub2 j a (sub j a h)).1, fun a h => .inl h, fr.trans (fun i a h => .inl (sub2 i a h).1) fun _ h => h⟩
    · obtain ⟨h1, h2⟩ := sub2 i a (sub i a hi)
      exact h2 (R.dis i p.1 a h1 ha)
    · -- a closed one's places are another slot's
      have key : ∀ (l : List (Nat × D)) (Gs : List (List Addr)), From H (upF Fs p.1 []) l Gs → G ∈ Gs → ∃ i, a ∈ upF Fs p.1 [] i ∨ H a = none := fun l => by
        induction l with
        | nil => intro Gs h1 h2; cases Gs with
          | nil => cases h2
          | cons _ _ => exact h1.elim
        | cons q l ih => intro Gs h1 h2; cases Gs with
          | nil => cases h2
          | cons F Gs =>
            rcases List.mem_cons.mp h2 with rfl | h2
            · exact ⟨q.1, h1.1 a hb⟩
            · exact ih Gs h1.2 h2
      obtain ⟨i, hi | hi⟩ := key l Gs fr hG
      · obtain ⟨h1, h2⟩ := sub2 i a hi
        exact h2 (R.dis i p.1 a h1 ha)
      · obtain ⟨xs, w⟩ := o.mem a ha
        rw [hi] at w; cases w
theorem RelS.unlock (R : RelS K H s σ Fs) (hd : Hid K H σ Fs l Gs) (fr : From H0 Fs0 l Gs) :
    ∃ Fs', RelS K H (unlockS l s) σ Fs' ∧ ∀ j a, a ∈ Fs' j → a ∈ Fs j ∨ ((a ∈ Fs0 j ∨ H0 a = none) ∧ ∃ G, G ∈ Gs ∧ a ∈ G) := by
  induction l generalizing s Fs Gs with
  | nil =>
    cases hd
    exact ⟨Fs, R, fun _ _ h => .inl h⟩
  | cons p l ih =>
    cases hd with
    | @cons i d v F l Gs hv A n hd =>
      obtain ⟨Fs1, R1, n1⟩ := R.put A i
      have e : σ.set i (some v) = σ := by
        obtain ⟨hi, e⟩ := List.getElem?_eq_some_iff.mp hv
        rw [← e, List.set_getElem_self]
      rw [e] at R1
      have hd1 : Hid K H σ Fs1 l Gs := by
        clear ih R fr
        induction hd with
        | nil => exact .nil
        | @cons j d' v' F' l Gs hv' A' n' hd' ih' =>
          refine .cons hv' ⟨A'.own, fun k a hk ha => ?_⟩ n' (ih' fun G hG => n G (List.mem_cons_of_mem _ hG))
          rcases n1 k a hk with z | z
          · exact A'.dis k a z.1 ha
          · exact n F' (List.mem_cons_self ..) a z.1 ha
      obtain ⟨Fs', R', n2⟩ := ih (s := s.set i (some d)) R1 hd1 fr.2
      refine ⟨Fs', R', fun j a h => ?_⟩
      rcases n2 j a h with z | ⟨z, G, hG, ha⟩
      · rcases n1 j a z with w | w
        · exact .inl w.1
        · refine .inr ⟨?_, F, List.mem_cons_self .., w.1⟩
          rw [w.2]
          exact fr.1 a w.1
      · exact .inr ⟨z, G, List.mem_cons_of_mem _ hG, ha⟩
end
abbrev I := Sg → Res (List D × List (Nat × D))
structure WalkD (K : PySem.W.Frag) (J : It) (G : Hp → Prop) (es : List D) : Prop where
  goes : ∀ i H, i < es.length → G H → J.go i H
  stops : ∀ H, G H → J.stop es.length H
  yields : ∀ i H x H', i < es.length → G H → J.yld i H x H' → ∃ d, es[i]? = some d ∧ Same H H' ∧ Own K H' d x []
def tI (K : PySem.W.Frag) (g : I) : TI := fun σ H R => ∃ s Fs es l s', RelS K H s σ Fs ∧ g s = .ok (es, l) s' ∧
  ∀ J H1 Fs1 Gs (G : Hp → Prop), RelS K H1 s' σ Fs1 → Chg (InF Fs) H H1 → (∀ j a, a ∈ Fs1 j → a ∈ Fs j ∨ H a = none) → Hid K H1 σ Fs1 l Gs → From H Fs l Gs → WalkD K J G es →
    (∀ H2 Fs2, Ev H1 Fs1 H2 Fs2 → G H2) → R J H1
def SimI (X : Cx) (tg iter : Expr) (g : I) : Prop := PI X tg iter (tI X.K g)
theorem pi_imp {X : Cx} {tg e : Expr} {t t' : TI} (h : PI X tg e t) (i : ∀ σ H Q, t' σ H Q → t σ H Q) : PI X tg e t' := ⟨fun pins s σ H Q I q => h.run pins s σ H Q I (i σ H Q q)⟩
/-- from operands that stand: items -/
def mkI (itm : List D → Option (List D)) (g : AL) : I := fun s => (g s).bind fun rs s1 => match rds rs s1 with
  | none => .bad
  | some ds => match itm ds with
    | none => .bad
    | some es => if purs es = true ∧ nodupB ((lks rs ds).map (·.1)) = true then .ok (es, lks rs ds) (lockS (lks rs ds) s1) else .bad
section
variable {X : Cx} {K : PySem.W.Frag}
theorem lks_has {H : Hp} {s : Sg} {σ : St} {Fs : Fp} {rs : List Rf} {vs : List V} {Gs : List (List Addr)} (r : Rfs K H σ Fs rs vs Gs) : ∀ {ds : List D}, rds rs s = some ds → ∀ p, p ∈ lks rs ds → s[p.1]? = some (some p.2) := by
  induction r with
  | nil => intro ds e p h; cases e; simp [lks] at h
  | @val d v F rs vs Gs A n _ ih =>
    intro ds e p h
    unfold rds at e
    simp only [rd] at e
    split at e
    · cases e
    · rename_i es he
      cases e
      exact ih he p (by simpa [lks] using h)
  | @slot i v rs vs Gs hv _ ih =>
    intro ds e p h
    unfold rds at e
    simp only [rd] at e
    split at e
    · cases e
    · rename_i d hd
      split at e
      · cases e
      · rename_i es he
        cases e
        unfold lks at h
        split at h
        · exact ih he p h
        · rcases List.mem_cons.mp h with rfl | h
          · exact join_some hd
          · exact ih he p h
/-- the operands stand through what a loop does -/
theorem lks_stand {H H2 : Hp} {s : Sg} {σ : St} {Fs Fs1 Fs2 : Fp} (R : RelS K H s σ Fs) (sub : ∀ j a, a ∈ Fs1 j → a ∈ Fs j) (e : Ev H Fs1 H2 Fs2) {l : List (Nat × D)} {Gl : List (List Addr)} (hd : Hid K H σ Fs1 l Gl) :
    ∀ {rs : List Rf} {vs : List V} {Gs : List (List Addr)}, Rfs K H σ Fs rs vs Gs → ∀ {ds : List D}, rds rs s = some ds → (∀ p, p ∈ lks rs ds → p ∈ l) → RdA K H2 vs ds := by
  intro rs vs Gs r
  induction r with
  | nil => intro ds e _; cases e; exact .nil
  | @val d v F rs vs Gs A n _ ih =>
    intro ds e' h
    unfold rds at e'
    simp only [rd] at e'
    split at e'
    · cases e'
    · rename_i es he
      cases e'
      have A1 : Apart K H Fs1 d v F := ⟨A.own, fun i a hi ha => A.dis i a (sub i a hi) ha⟩
      exact .cons (A1.ev e).own (ih he fun p hp => h p (by simpa [lks] using hp))
  | @slot i v rs vs Gs hv _ ih =>
    intro ds e' h
    unfold rds at e'
    simp only [rd] at e'
    split at e'
    · cases e'
    · rename_i d hd0
      split at e'
      · cases e'
      · rename_i es he
        cases e'
        obtain ⟨v', hv', o⟩ := R.has i d (join_some hd0)
        rw [hv] at hv'
        cases hv'
        by_cases hp : pur d = true
        · rw [o.pur hp] at o
          refine .cons (o.chg e.chg fun _ z => by cases z) (ih he fun p hp' => h p ?_)
          unfold lks
          rw [if_pos hp]
          exact hp'
        · have hm : (i, d) ∈ l := h (i, d) (by unfold lks; rw [if_neg hp]; exact List.mem_cons_self ..)
          have key : ∀ {l : List (Nat × D)} {Gl : List (List Addr)}, Hid K H σ Fs1 l Gl → (i, d) ∈ l → ∃ F, Apart K H Fs1 d v F := fun {l Gl} q => by
            induction q with
            | nil => intro h; cases h
            | @cons j d' v' F l Gl hv' A n _ ih =>
              intro h
              rcases List.mem_cons.mp h with z | h
              · cases z
                rw [hv] at hv'
                cases hv'
                exact ⟨F, A⟩
              · exact ih h
          obtain ⟨F, A⟩ := key hd hm
          refine .cons (A.ev e).own (ih he fun p hp' => h p ?_)
          unfold lks
          rw [if_neg hp]
          exact List.mem_cons_of_mem _ hp'
/-- the rule of a walk over operands: J as the values say -/
theorem mkI_ok {itm : List D → Option (List D)} {g : AL} {σ : St} {H : Hp} {R : It → Hp → Prop} (h : tI K (mkI itm g) σ H R) {w : List V → Hp → (It → Hp → Prop) → Prop}
    (hw : ∀ vs ds es H R, RdA K H vs ds → itm ds = some es → purs es = true → (∀ J, WalkD K J (fun H2 => RdA K H2 vs ds) es → R J H) → w vs H R) : tA K g σ H fun vs H1 => w vs H1 R := by
  obtain ⟨s, Fs, es, l, s', R0, e, q⟩ := h
  obtain ⟨rs, s1, e1, e⟩ := bind_inv e
  refine ⟨s, Fs, rs, s1, R0, e1, fun vs H1 Fs1 Gs R1 E1 k1 n1 => ?_⟩
  split at e
  · cases e
  · rename_i ds hds
    split at e
    · cases e
    · rename_i es' hes
      split at e
      · rename_i hp
        cases e
        obtain ⟨Fs2, Gl, R2, hd, sub, fr⟩ := R1.lock (lks_has k1 hds) hp.2
        refine hw vs ds es H1 R (k1.dp R1 hds) hes hp.1 fun J W => ?_
        refine q J H1 Fs2 Gl _ R2 E1.chg (fun j a h => E1.new j a (sub j a h)) hd (fr.trans E1.new fun a h => E1.chg.there a h) W fun H2 Fs3 E => ?_
        exact lks_stand R1 sub E hd k1 hds fun p h => h
      · cases e
theorem purs_get {es : List D} (h : purs es = true) {i : Nat} {d : D} (e : es[i]? = some d) : pur d = true := by
  induction es generalizing i with
  | nil => simp at e
  | cons x es ih =>
    simp only [purs, Bool.and_eq_true] at h
    cases i with
    | zero => simp at e; rw [← e]; exact h.1
    | succ i => exact ih h.2 (by simpa using e)
theorem OwnA.at {H : Hp} {ds : List D} {vs : List V} {F : List Addr} (t : OwnA K H ds vs F) (p : purs ds = true) {i : Nat} {x : V} (e : vs[i]? = some x) : ∃ d, ds[i]? = some d ∧ Own K H d x [] := by
  have hl := t.len
  have hi : i < ds.length := by rw [← hl]; exact (List.getElem?_eq_some_iff.mp e).1
  obtain ⟨v, G, hv, o, _⟩ := t.get i ds[i] (List.getElem?_eq_getElem hi)
  rw [e] at hv
  cases hv
  have pp := purs_get p (List.getElem?_eq_getElem hi)
  rw [o.pur pp] at o
  exact ⟨_, List.getElem?_eq_getElem hi, o⟩
/-- plain: a list, a tuple, a list that never changes -/
def itP : List D → Option (List D)
  | [.list ds] => some ds
  | [.tuple ds] => some ds
  | [.dict [(.none, .list ds)]] => some ds
  | _ => none
def wP (K : PySem.W.Frag) : List V → Hp → (It → Hp → Prop) → Prop := fun vs H R => ∃ a, vs = [.ref a] ∧ ((∃ xs, SqL K H a xs) ∧ R (Itl K a) H ∨ (∃ xs, SqT K H a xs) ∧ R (Itt K a) H)
theorem rd_list {H : Hp} {a : Addr} {ds : List D} (h : RdA K H [.ref a] [.list ds]) : ∃ xs F, SqL K H a xs ∧ OwnA K H ds xs F := by
  cases h with
  | cons o _ =>
    cases o with
    | lst h t n => exact ⟨_, _, SqL.of h, t⟩
theorem rd_tup {H : Hp} {a : Addr} {ds : List D} (h : RdA K H [.ref a] [.tuple ds]) : ∃ xs F, SqT K H a xs ∧ OwnA K H ds xs F := by
  cases h with
  | cons o _ =>
    cases o with
    | tup h t => exact ⟨_, _, h.sq, t⟩
theorem rd_frz {H : Hp} {a : Addr} {ds : List D} (h : RdA K H [.ref a] [.dict [(.none, .list ds)]]) : ∃ xs F, SqL K H a xs ∧ OwnA K H ds xs F := by
  cases h with
  | cons o _ =>
    cases o with
    | frz h t => exact ⟨_, _, h.sq, t⟩
theorem walkD_l {a : Addr} {ds : List D} {G : Hp → Prop} (p : purs ds = true) (h : ∀ H, G H → ∃ xs F, SqL K H a xs ∧ OwnA K H ds xs F) : WalkD K (Itl K a) G ds := by
  refine ⟨fun i H hi g => ?_, fun H g => ?_, fun i H x H' hi g y => ?_⟩
  · obtain ⟨xs, F, hq, t⟩ := h H g
    have hl := t.len
    exact ⟨xs, xs[i]'(by omega), hq, List.getElem?_eq_getElem _⟩
  · obtain ⟨xs, F, hq, t⟩ := h H g
    have hl := t.len
    exact ⟨xs, hq, by omega⟩
  · obtain ⟨xs, F, hq, t⟩ := h H g
    obtain ⟨rfl, y⟩ := y
    obtain ⟨d, hd, o⟩ := t.at p (y xs hq)
    exact ⟨d, hd, Same.refl _, o⟩
theorem walkD_t {a : Addr} {ds : List D} {G : Hp → Prop} (p : purs ds = true) (h : ∀ H, G H → ∃ xs F, SqT K H a xs ∧ OwnA K H ds xs F) : WalkD K (Itt K a) G ds := by
  refine ⟨fun i H hi g => ?_, fun H g => ?_, fun i H x H' hi g y => ?_⟩
  · obtain ⟨xs, F, hq, t⟩ := h H g
    have hl := t.len
    exact ⟨xs, xs[i]'(by omega), hq, List.getElem?_eq_getElem _⟩
  · obtain ⟨xs, F, hq, t⟩ := h H g
    have hl := t.len
    exact ⟨xs, hq, by omega⟩
  · obtain ⟨xs, F, hq, t⟩ := h H g
    obtain ⟨rfl, y⟩ := y
    obtain ⟨d, hd, o⟩ := t.at p (y xs hq)
    exact ⟨d, hd, Same.refl _, o⟩
theorem wP_ok : ∀ (vs : List V) (ds es : List D) (H : Hp) (R : It → Hp → Prop), RdA K H vs ds → itP ds = some es → purs es = true → (∀ J, WalkD K J (fun H2 => RdA K H2 vs ds) es → R J H) → wP K vs H R := by
  intro vs ds es H R h e p q
  unfold itP at e
  split at e
  · cases e
    obtain ⟨x, F, rfl, o⟩ := h.one
    cases o with
    | lst h1 t n => exact ⟨_, rfl, .inl ⟨⟨_, SqL.of h1⟩, q _ (walkD_l p fun H2 g => rd_list g)⟩⟩
  · cases e
    obtain ⟨x, F, rfl, o⟩ := h.one
    cases o with
    | tup h1 t => exact ⟨_, rfl, .inr ⟨⟨_, h1.sq⟩, q _ (walkD_t p fun H2 g => rd_tup g)⟩⟩
  · cases e
    obtain ⟨x, F, rfl, o⟩ := h.one
    cases o with
    | frz h1 t => exact ⟨_, rfl, .inl ⟨⟨_, h1.sq⟩, q _ (walkD_l p fun H2 g => rd_frz g)⟩⟩
  · cases e
/-- over a list or a tuple -/
theorem pi_seq {tg e : Expr} {te : TE} (he : PE X e te) : PI X tg e (fun σ H R => te σ H fun x H1 => wP X.K [x] H1 R) := by
  refine ⟨fun pins s σ H R I h => ?_⟩
  -- the value is known only when it is there: both rules run on the same evaluation
  refine thn (he.run pins s σ H _ I h) fun v s1 ⟨x, H1, I1, r1, a, ex, q⟩ => ?_
  have ex' : x = V.ref a := by cases ex; rfl
  subst ex'
  rcases q with ⟨⟨xs, hq⟩, q⟩ | ⟨⟨xs, hq⟩, q⟩
  · cases r1
    obtain ⟨its, rv, p, hz⟩ := I1.list hq
    refine wpAny_pyIter_list p.isList ?_
    refine ⟨s1.heap.objs.size, [s1.heap.objs.size], _, _, H1, rfl, I1.kept (t' := s1.toks) fun b o e => Heap.get?_push_of_some _ e, turn_list a _, ⟨_, Heap.get?_push_size _ rfl, rfl, rfl⟩, fun b hb => ?_, q⟩
    have e : b = s1.heap.objs.size := by simpa using hb
    subst e
    exact I1.fpOk (Nat.le_refl _) (I1.hok.fresh (Nat.le_refl _))
  · cases r1
    obtain ⟨its, rv, p, hz⟩ := I1.tuple hq
    refine wpAny_pyIter_tuple (show s1.heap.IsTuple a its.toArray from p) ?_
    refine ⟨s1.heap.objs.size, [s1.heap.objs.size], _, _, H1, rfl, I1.kept (t' := s1.toks) fun b o e => Heap.get?_push_of_some _ e, turn_tuple a _, ⟨_, Heap.get?_push_size _ rfl, rfl, rfl⟩, fun b hb => ?_, q⟩
    have e : b = s1.heap.objs.size := by simpa using hb
    subst e
    exact I1.fpOk (Nat.le_refl _) (I1.hok.fresh (Nat.le_refl _))
theorem si_seq {tg e : Expr} {ga : O} (he : SimO X e ga) : SimI X tg e (mkI itP (aCons ga aNil)) :=
  pi_imp (pi_seq he) fun _ _ _ h => by have z := tA1 (mkI_ok h wP_ok); exact z
def rngD (lo : Int) (n : Nat) : List D := (List.range n).map fun i => .int (lo + (i : Nat))
def itR1 : List D → Option (List D)
  | [.int j] => if -1000000 < j ∧ j < 1000000 then some (rngD 0 j.toNat) else none
  | _ => none
def itR2 : List D → Option (List D)
  | [.int i, .int j] => if -1000000 < i ∧ i < 1000000 ∧ -1000000 < j ∧ j < 1000000 then some (rngD i (j - i).toNat) else none
  | _ => none
theorem rngD_len (lo : Int) (n : Nat) : (rngD lo n).length = n := by unfold rngD; simp
theorem walkD_r {lo : Int} {n : Nat} {G : Hp → Prop} : WalkD K (Itr lo n) G (rngD lo n) := by
  refine ⟨fun i H hi g => by rw [rngD_len] at hi; exact hi, fun H g => by rw [rngD_len]; exact Nat.le_refl _, fun i H x H' hi g y => ?_⟩
  obtain ⟨rfl, rfl⟩ := y
  rw [rngD_len] at hi
  refine ⟨.int (lo + (i : Nat)), ?_, Same.refl _, .int _⟩
  unfold rngD
  rw [List.getElem?_map, List.getElem?_range hi]
  rfl
theorem si_range1 {tg a : Expr} {ga : O} {p pos : Pos} (hg : Gl X "range") (hm : X.mg "range" = none) (ha : SimA X [a] (aCons ga aNil)) (hs : starEach [a] X.env = [(false, eval a X.env)] := by rfl) : SimI X tg (.Call (.Name "range" p) [a] [] pos) (mkI itR1 (aCons ga aNil)) := by
  refine pi_imp (pi_range1 hg hm ha hs) fun σ H R h => ?_
  exact mkI_ok h (w := fun vs H1 R => ∃ j : Int, vs = [.int j] ∧ -(2 ^ 62) ≤ j ∧ j < 2 ^ 62 ∧ R (Itr 0 j.toNat) H1) (fun vs ds es H R h e p q => by
    unfold itR1 at e
    split at e
    · obtain ⟨x, F, rfl, o⟩ := h.one
      cases o
      split at e
      · rename_i hj
        cases e
        exact ⟨_, rfl, by omega, by omega, q _ walkD_r⟩
      · cases e
    · cases e)
end
end Sim
namespace Sim
open PySem PySem.Spec L2
open Sem (wp)
theorem meets_enumerate_newB1 {v : Value} {o : Obj} {H : Heap → Prop} (B : Begins v o H) :
    Meets (Builtin.«enumerate.__new__» ⟨[.type "enumerate", v], []⟩) (fun _ R s => H s.heap ∧
      R (.ok (.ret (.ref (s.heap.push o).objs.size))) { s with heap := (s.heap.push o).push { cls := .type "enumerate", data := .fields #[.none, .bool false, .ref s.heap.objs.size, rawInt 0, .none, .none] } }) :=
  .of_wp fun prog w A R s h => by
    obtain ⟨hp, g, d, tk, os⟩ := s; obtain ⟨h1, h⟩ := h
    have hsub := sub_enumerate
    have q1 : ∀ {A' : Around} {E : Value → Shared → Prop} {Q : Value → Shared → Prop}, Q (.ref hp.objs.size) ⟨hp.push o, g, d, tk, os⟩ → wpAny (model prog w) A' (pyIter v) Q E ⟨hp, g, d, tk, os⟩ :=
      fun q => B.iter prog w _ _ ⟨hp, g, d, tk, os⟩ _ h1 q
    wp_walk using q1
    refine wpAny_stack_any fun st => wpAny_pure ?_
    split
    · rename_i c _ _ _ _ _
      cases (c == Value.type "enumerate")
      · wp_walk using q1
        exact ⟨_, rfl, h⟩
      · wp_walk using q1
        exact ⟨_, rfl, h⟩
    · wp_walk using q1
      exact ⟨_, rfl, h⟩
theorem enum_begins1 {prog : Program} {w : World} {A : Around} {E : Value → Shared → Prop} {s : Shared} {v : Value} {o : Obj} {H : Heap → Prop} {Q : Value → Shared → Prop} (B : Begins v o H) (h1 : H s.heap)
    (h : ∀ h', IsEnum h' (s.heap.objs.size + 1) s.heap.objs.size 0 .none → h'.get? s.heap.objs.size = some o → h'.objs.size = s.heap.objs.size + 2 →
      (∀ b o, s.heap.get? b = some o → h'.get? b = some o) → Q (.ref (s.heap.objs.size + 1)) { s with heap := h' }) :
    wpAny (model prog w) A (call (.type "enumerate") [v]) Q E s := by
  refine callType_new F.called_enumerate (by decide) (F.typeCall_enumerate_1 _) (F.newCall_enumerate_1 _) (fun obj => F.args_object_init_2 obj _) F.entry_enumerate_new
    (meets_enumerate_newB1 B) ⟨h1, ?_⟩
  have hz : (s.heap.push o).objs.size = s.heap.objs.size + 1 := Heap.size_push ..
  show _ ∧ _
  rw [hz]
  have he : IsEnum ((s.heap.push o).push { cls := .type "enumerate", data := .fields #[.none, .bool false, .ref s.heap.objs.size, rawInt 0, .none, .none] }) (s.heap.objs.size + 1) s.heap.objs.size 0 .none := by
    have := Heap.get?_push_size (s.heap.push o) (o := { cls := .type "enumerate", data := .fields #[.none, .bool false, .ref s.heap.objs.size, rawInt 0, .none, .none] }) rfl
    rw [hz] at this; exact this
  refine ⟨⟨_, he, rfl⟩, h _ he (Heap.get?_push_of_some _ (Heap.get?_push_size _ B.free)) (by rw [Heap.size_push, hz]) fun b o x => Heap.get?_push_of_some _ (Heap.get?_push_of_some _ x)⟩
def Sq2 (K : PySem.W.Frag) (H : Hp) (k : Bool) (a : Addr) (xs : List V) : Prop := match k with
  | true => SqL K H a xs
  | false => SqT K H a xs
def SrcH (h : Heap) (k : Bool) (a : Addr) (items : Array Value) : Prop := match k with
  | true => h.IsList a items
  | false => h.IsTuple a items
def ItH (h : Heap) (k : Bool) (it a : Addr) (i : Nat) : Prop := match k with
  | true => h.IsListIter it a i
  | false => h.IsTupleIter it a i
theorem sq2_src {X : Cx} {pins : List (Addr × Obj)} {σ : St} {H : Hp} {s : Shared} {k : Bool} {a : Addr} {xs : List V} (I : Inv X pins σ H s) (h : Sq2 X.K H k a xs) : ∃ its : List Value, Vals xs its ∧ SrcH s.heap k a its.toArray ∧ xs.length ≤ sizeLine := by
  cases k with
  | true =>
    obtain ⟨its, r, p, z⟩ := I.list h
    exact ⟨its, r, p.isList, z⟩
  | false =>
    obtain ⟨its, r, p, z⟩ := I.tuple h
    exact ⟨its, r, p, z⟩
theorem sq2_inj {X : Cx} {pins : List (Addr × Obj)} {σ : St} {H : Hp} {s : Shared} {k : Bool} {a : Addr} {xs ys : List V} (I : Inv X pins σ H s) (h : Sq2 X.K H k a xs) (h2 : Sq2 X.K H k a ys) : xs = ys := by
  cases k with
  | true => exact I.list_inj h h2
  | false => exact I.tuple_inj h h2
theorem itH_obj {h : Heap} {k : Bool} {it a : Addr} {i : Nat} (st : ItH h k it a i) : ∃ o, h.get? it = some o ∧ ∀ v, o.data ≠ .cell v := by
  cases k with
  | true =>
    obtain ⟨o, ho, hc, hd⟩ := st
    exact ⟨o, ho, fun v q => by rw [hd] at q; cases q⟩
  | false =>
    obtain ⟨o, ho, hc, hd⟩ := st
    exact ⟨o, ho, fun v q => by rw [hd] at q; cases q⟩
theorem itH_at {h h' : Heap} {k : Bool} {it a : Addr} {i : Nat} (st : ItH h k it a i) (q : ∀ o, h.get? it = some o → h'.get? it = some o) : ItH h' k it a i := by
  cases k with
  | true => exact Heap.IsListIter.at st q
  | false => exact Heap.IsTupleIter.at st q
theorem itH_lt {h : Heap} {k : Bool} {it a : Addr} {i : Nat} (st : ItH h k it a i) : it < h.objs.size := by
  obtain ⟨o, ho, _⟩ := itH_obj st
  exact Heap.lt_size ho
theorem src_apart {h : Heap} {k k2 : Bool} {it b a : Addr} {i : Nat} {items : Array Value} (st : ItH h k it b i) (ht : SrcH h k2 a items) : a ≠ it := by
  rintro rfl
  have e1 : ∃ o, h.get? a = some o ∧ (o.cls = .type "list_iterator" ∨ o.cls = .type "tuple_iterator") := by
    cases k with
    | true => obtain ⟨o, ho, hc, _⟩ := st; exact ⟨o, ho, .inl hc⟩
    | false => obtain ⟨o, ho, hc, _⟩ := st; exact ⟨o, ho, .inr hc⟩
  have e2 : ∃ o, h.get? a = some o ∧ (o.cls = .type "list" ∨ o.cls = .type "tuple") := by
    cases k2 with
    | true => obtain ⟨o, ho, hc, _⟩ := ht; exact ⟨o, ho, .inl hc⟩
    | false => obtain ⟨o, ho, hc, _⟩ := ht; exact ⟨o, ho, .inr hc⟩
  obtain ⟨o, ho, hc⟩ := e1
  obtain ⟨o', ho', hc'⟩ := e2
  rw [ho] at ho'
  cases ho'
  rcases hc with hc | hc <;> rcases hc' with hc' | hc' <;> rw [hc] at hc' <;> injection hc' with z <;> exact absurd z (by decide)
theorem src_cls {h : Heap} {k : Bool} {a : Addr} {items : Array Value} (ht : SrcH h k a items) {o : Obj} (ho : h.get? a = some o) : o.cls = .type "list" ∨ o.cls = .type "tuple" := by
  cases k with
  | true => obtain ⟨o', ho', hc, _⟩ := ht; rw [ho] at ho'; cases ho'; exact .inl hc
  | false => obtain ⟨o', ho', hc, _⟩ := ht; rw [ho] at ho'; cases ho'; exact .inr hc
theorem draws_src {prog : Program} {w : World} {A : Around} (hh : A.handled = none) (k : Bool) (it a : Addr) (hne : a ≠ it) (items : Array Value) :
    Draws prog w A it [it, a] items.size (fun i v => items[i]? = some v) (fun i h => ItH h k it a i ∧ SrcH h k a items) := by
  cases k with
  | true => exact Draws.list hh it a hne items
  | false => exact Draws.tuple hh it a hne items
theorem begins_src (k : Bool) (a : Addr) (items : Array Value) : ∃ o, Begins (.ref a) o (fun h => SrcH h k a items) ∧ ∀ (h : Heap) (it : Addr), h.get? it = some o → ItH h k it a 0 := by
  cases k with
  | true => exact ⟨_, begins_list a items, fun h it e => ⟨_, e, rfl, rfl⟩⟩
  | false => exact ⟨_, begins_tuple a items, fun h it e => ⟨_, e, rfl, rfl⟩⟩
def IteA (K : PySem.W.Frag) (k : Bool) (a : Addr) : It :=
  ⟨fun i H => ∃ (xs : List V) (x : V), Sq2 K H k a xs ∧ xs[i]? = some x, fun i H v H' => ∃ T o x, v = .ref T ∧ H T = none ∧ o.dict = none ∧ H' = upd H T (.frz o (.tup [.int (i : Nat), x])) ∧ ∀ xs, Sq2 K H k a xs → xs[i]? = some x, fun i H => ∃ xs : List V, Sq2 K H k a xs ∧ xs.length = i⟩
theorem enum_apart {h : Heap} {k : Bool} {e a : Addr} {i : Addr} {c : Int} {old : Value} {items : Array Value} (he : IsEnum h e i c old) (ht : SrcH h k a items) : e ≠ a := by
  rintro rfl
  have he' : h.get? e = some _ := he
  rcases src_cls ht he' with z | z <;> injection z with z <;> exact absurd z (by decide)
theorem turn_enumA {P : Program} {w : World} {K : PySem.W.Frag} {elts : List Expr} {kk : Nat} {tpos : Pos} (k : Bool) (a e it : Addr) :
    Turn P w K (.Tuple elts kk tpos) (IteA K k a) [e, it] e (fun i h => (∃ old, IsEnum h e it ((i : Nat) : Int) old) ∧ ItH h k it a i ∧ e ≠ it) where
  mem := by simp
  obj := fun i h st b hb => by
    obtain ⟨⟨old, he⟩, hi, _⟩ := st
    have e' : b = e ∨ b = it := by simpa using hb
    rcases e' with z | z
    · rw [z]; exact ⟨_, he, fun v q => nomatch q⟩
    · rw [z]; exact itH_obj hi
  keep := fun i h h' st k => let ⟨⟨old, he⟩, hi, hne⟩ := st; ⟨⟨old, k e (by simp) _ he⟩, itH_at hi fun o q => k it (by simp) o q, hne⟩
  item := by
    intro X hP hw hK hc i pins s σ H E I hf st hg
    subst hP hw hK
    obtain ⟨⟨old, he⟩, hit, hne⟩ := st
    obtain ⟨xs, x, hq, hx⟩ := hg
    obtain ⟨its, rv, ht, hz⟩ := sq2_src I hq
    obtain ⟨u, hu, ru⟩ := rv.get hx
    have hel : e < s.heap.objs.size := Heap.lt_size he
    have hil := itH_lt hit
    have hai := src_apart hit ht
    have hea := enum_apart he ht
    have hh : X.A.in1.handled = none := I.ok.hd hc
    have hlt : i < its.toArray.size := by
      have := (List.getElem?_eq_some_iff.mp hu).1
      simpa using this
    refine wpAny_pyNext_enum_itemC (draws_src hh k it a hai its.toArray) he ⟨hit, ht⟩ hlt hne (by simp [hne, hea]) fun x' h' tk hP ho hst hT hsz hk => ?_
    have hxu : x' = u := by
      have q : its.toArray[i]? = some u := by simpa using hu
      rw [q] at hP
      exact (Option.some.inj hP).symm
    subst hxu
    refine ⟨_, rfl, wpAny_letOwnedTupleGo_enum (s := { s with heap := h', toks := tk + 1 }) ho fun h'' he' sb => ?_⟩
    have hT2 : h''.get? s.heap.objs.size = some { cls := .type "tuple", data := .seq #[.int i tk, x'] } := (sb.2 _ (Nat.ne_of_gt hel)).trans hT
    have new : ObjOk X.prog X.w (upd H s.heap.objs.size (.frz { cls := .type "tuple", data := .seq #[.int i tk, x'] } (.tup [.int (i : Nat), x]))) h'' s.heap.objs.size (.frz { cls := .type "tuple", data := .seq #[.int i tk, x'] } (.tup [.int (i : Nat), x])) :=
      ⟨hT2, by show 2 ≤ sizeLine; decide, [.int i tk, x'], .cons ⟨_, rfl⟩ (.cons ru .nil), ⟨_, hT2, rfl, _, rfl⟩⟩
    have I1 : Inv X pins σ (upd H s.heap.objs.size (.frz { cls := .type "tuple", data := .seq #[.int i tk, x'] } (.tup [.int (i : Nat), x]))) { s with heap := h'', toks := tk + 1 } :=
      I.turnedNew (ch := [e, it]) (fun b ob hb q => (sb.2 b (fun z => hb (by simp [z]))).trans (hk b ob (fun z => hb (by simp [z])) (fun z => hb (by simp [z])) q)) hf (Nat.le_refl _) new
    refine ⟨.ref s.heap.objs.size, _, I1, rfl, ⟨_, _, x, rfl, I.hok.fresh (Nat.le_refl _), rfl, rfl, fun ys hy => by rw [sq2_inj I hy hq]; exact hx⟩, ⟨⟨x', ?_⟩, itH_at hst.1 fun o q => (sb.2 it (Ne.symm hne)).trans q, hne⟩, fun b hb => ?_⟩
    · have e1 : ((i + 1 : Nat) : Int) = (i : Int) + 1 := by omega
      rw [e1]; exact he'
    · have hb' : b < s.heap.objs.size := by
        have e' : b = e ∨ b = it := by simpa using hb
        rcases e' with z | z
        · rw [z]; exact hel
        · rw [z]; exact hil
      rw [upd_ne (Nat.ne_of_lt hb')]
      exact (hf b hb).1
  done := by
    intro X hP hw hK hc i pins s σ H E I hf st hg
    subst hP hw hK
    obtain ⟨⟨old, he⟩, hit, hne⟩ := st
    obtain ⟨xs, hq, hx⟩ := hg
    obtain ⟨its, rv, ht, hz⟩ := sq2_src I hq
    obtain ⟨f0, f1, f2, f3, f4, f5⟩ := hf it (by simp)
    have hl := rv.length
    have hai := src_apart hit ht
    have hh : X.A.in1.handled = none := I.ok.hd hc
    have hi : i = its.toArray.size := by rw [List.size_toArray]; omega
    subst hi
    exact wpAny_pyNext_enum_endD (draws_src hh k it a hai its.toArray) he ⟨hit, ht⟩ fun h' eb => ⟨rfl, I.turned (t' := s.toks) (fun b o hb q => eb b o hb q) f0 f1 f3 f4 f5⟩
  self := fun A i s Q E st h => let ⟨⟨_, he⟩, _⟩ := st; wpAny_pyIter_enum he h
def iEnumA (K : PySem.W.Frag) (ta : TA) : TI := fun σ H R => ta σ H fun vs H1 => ∃ k a xs, vs = [.ref a] ∧ Sq2 K H1 k a xs ∧ R (IteA K k a) H1
theorem pi_enumA {X : Cx} {e : Expr} {ta : TA} {p pos tpos : Pos} {elts : List Expr} {kk : Nat} (hg : Gl X "enumerate") (hm : X.mg "enumerate" = none) (ha : PA X [e] ta) (hs : starEach [e] X.env = [(false, eval e X.env)] := by rfl) :
    PI X (.Tuple elts kk tpos) (.Call (.Name "enumerate" p) [e] [] pos) (iEnumA X.K ta) := by
  refine ⟨fun pins s σ H R I h => ?_⟩
  refine PyProof.Rows.Call_ (ld_blt I hg hm PyProof.Rows.boot_enumerate (PyProof.Rows.callWith_type1 (thn (ha.run pos pins s σ H _ I h) fun us s1 ⟨vs, H1, I1, r1, q1⟩ => ?_) hs rfl))
  obtain ⟨k, a, xs, ex, hq, q⟩ := q1
  subst ex
  cases r1 with
  | cons r rr =>
    cases rr
    cases r
    have fin : ∀ b, b ∈ [s1.heap.objs.size + 1, s1.heap.objs.size] → FpOk X pins H1 b := fun b hb => by
      have e' : b = s1.heap.objs.size + 1 ∨ b = s1.heap.objs.size := by simpa using hb
      have hle : s1.heap.objs.size ≤ b := by
        rcases e' with z | z
        · rw [z]; exact Nat.le_add_right _ _
        · rw [z]; exact Nat.le_refl _
      exact I1.fpOk hle (I1.hok.fresh hle)
    obtain ⟨its, rv, ht, hz⟩ := sq2_src I1 hq
    obtain ⟨o, B, hB⟩ := begins_src k a its.toArray
    refine enum_begins1 B ht fun h' he hit hsz hk => wpAny_pyIter_enum he ?_
    have I2 : Inv X pins σ H1 { s1 with heap := h' } := I1.kept (t' := s1.toks) hk
    exact ⟨s1.heap.objs.size + 1, [s1.heap.objs.size + 1, s1.heap.objs.size], _, _, H1, rfl, I2, turn_enumA k a (s1.heap.objs.size + 1) s1.heap.objs.size, ⟨⟨.none, he⟩, hB _ _ hit, Nat.succ_ne_self _⟩, fin, q⟩
def enumD : Nat → List D → List D
  | _, [] => []
  | n, d :: ds => .tuple [.int (n : Int), d] :: enumD (n + 1) ds
def zipD : List D → List D → List D
  | d :: ds, e :: es => .tuple [d, e] :: zipD ds es
  | _, _ => []
def itE : List D → Option (List D)
  | [.list ds] => some (enumD 0 ds)
  | [.tuple ds] => some (enumD 0 ds)
  | [.dict [(.none, .list ds)]] => some (enumD 0 ds)
  | _ => none
def itZ : List D → Option (List D)
  | [.list ds, .list es] => some (zipD ds es)
  | [.tuple ds, .tuple es] => some (zipD ds es)
  | [.list ds, .tuple es] => some (zipD ds es)
  | [.tuple ds, .list es] => some (zipD ds es)
  | _ => none
theorem enumD_len : ∀ (n : Nat) (ds : List D), (enumD n ds).length = ds.length
  | _, [] => rfl
  | n, _ :: ds => by rw [enumD, List.length_cons, List.length_cons, enumD_len (n + 1) ds]
theorem enumD_get : ∀ (n : Nat) (ds : List D) (i : Nat) (d : D), ds[i]? = some d → (enumD n ds)[i]? = some (.tuple [.int ((n + i : Nat) : Int), d])
  | _, [], _, _, h => by simp at h
  | n, x :: ds, 0, d, h => by simp at h; subst h; rfl
  | n, x :: ds, i + 1, d, h => by
    have := enumD_get (n + 1) ds i d (by simpa using h)
    rw [enumD, List.getElem?_cons_succ, this]
    congr 5
    omega
theorem enumD_purs : ∀ (n : Nat) (ds : List D), purs (enumD n ds) = purs ds
  | _, [] => rfl
  | n, d :: ds => by simp [enumD, purs, pur, enumD_purs (n + 1) ds]
section
variable {X : Cx} {K : PySem.W.Frag}
theorem pair_own {H H' : Hp} {T : Addr} {ob : Obj} {x y : V} {d e : D} (hT : H T = none) (hn : ob.dict = none) (hH : H' = upd H T (.frz ob (.tup [x, y]))) (o1 : Own K H d x []) (o2 : Own K H e y []) : Same H H' ∧ Own K H' (.tuple [d, e]) (.ref T) [] := by
  subst hH
  have sm : Same H (upd H T (.frz ob (.tup [x, y]))) := same_new hT
  exact ⟨sm, .tup (SqD.of upd_same hn) (.cons0 (o1.same sm) (.cons0 (o2.same sm) .nil))⟩
theorem walkD_e {k : Bool} {a : Addr} {ds : List D} {G : Hp → Prop} (p : purs ds = true) (h : ∀ H, G H → ∃ xs F, Sq2 K H k a xs ∧ OwnA K H ds xs F) : WalkD K (IteA K k a) G (enumD 0 ds) := by
  refine ⟨fun i H hi g => ?_, fun H g => ?_, fun i H x H' hi g y => ?_⟩
  · obtain ⟨xs, F, hq, t⟩ := h H g
    have hl := t.len
    rw [enumD_len] at hi
    exact ⟨xs, xs[i]'(by omega), hq, List.getElem?_eq_getElem _⟩
  · obtain ⟨xs, F, hq, t⟩ := h H g
    have hl := t.len
    rw [enumD_len]
    exact ⟨xs, hq, by omega⟩
  · obtain ⟨xs, F, hq, t⟩ := h H g
    obtain ⟨T, ob, x', rfl, hT, hn, hH, y⟩ := y
    obtain ⟨d, hd, o⟩ := t.at p (y xs hq)
    obtain ⟨sm, o2⟩ := pair_own hT hn hH (.int (i : Nat)) o
    exact ⟨_, by rw [enumD_get 0 ds i d hd, Nat.zero_add], sm, o2⟩
theorem si_enum {e : Expr} {ga : O} {p pos tpos : Pos} {elts : List Expr} {kk : Nat} (hg : Gl X "enumerate") (hm : X.mg "enumerate" = none) (ha : SimA X [e] (aCons ga aNil)) (hs : starEach [e] X.env = [(false, eval e X.env)] := by rfl) :
    SimI X (.Tuple elts kk tpos) (.Call (.Name "enumerate" p) [e] [] pos) (mkI itE (aCons ga aNil)) := by
  refine pi_imp (pi_enumA hg hm ha hs) fun σ H R h => ?_
  exact mkI_ok h (w := fun vs H1 R => ∃ k a xs, vs = [.ref a] ∧ Sq2 X.K H1 k a xs ∧ R (IteA X.K k a) H1) (fun vs ds es H R h e p q => by
    unfold itE at e
    split at e
    · cases e
      rw [enumD_purs] at p
      obtain ⟨x, F, rfl, o⟩ := h.one
      cases o with
      | lst h1 t n => exact ⟨true, _, _, rfl, SqL.of h1, q _ (walkD_e p fun H2 g => rd_list g)⟩
    · cases e
      rw [enumD_purs] at p
      obtain ⟨x, F, rfl, o⟩ := h.one
      cases o with
      | tup h1 t => exact ⟨false, _, _, rfl, h1.sq, q _ (walkD_e p fun H2 g => rd_tup g)⟩
    · cases e
      rw [enumD_purs] at p
      obtain ⟨x, F, rfl, o⟩ := h.one
      cases o with
      | frz h1 t => exact ⟨true, _, _, rfl, h1.sq, q _ (walkD_e p fun H2 g => rd_frz g)⟩
    · cases e)
theorem OwnA.at0 {H : Hp} {ds : List D} {vs : List V} {F : List Addr} (t : OwnA K H ds vs F) {i : Nat} {x : V} (e : vs[i]? = some x) : ∃ d G, ds[i]? = some d ∧ Own K H d x G := by
  have hl := t.len
  have hi : i < ds.length := by rw [← hl]; exact (List.getElem?_eq_some_iff.mp e).1
  obtain ⟨v, G, hv, o, _⟩ := t.get i ds[i] (List.getElem?_eq_getElem hi)
  rw [e] at hv
  cases hv
  exact ⟨_, _, List.getElem?_eq_getElem hi, o⟩
end
end Sim
namespace Sim
open PySem PySem.Spec L2
def loopS (t : Tg) (g : S) : List D → S
  | [] => fun s => .ok .nx s
  | d :: ds => fun s => match asg t d s with
    | none => .bad
    | some s1 => (g s1).bind fun fl s2 => match fl with
      | .nx => loopS t g ds s2
      | .ct => loopS t g ds s2
      | .bk => .ok .nx s2
      | .rt d => .ok (.rt d) s2
def sFor (lk' : Nat → Bool) (it : I) (t : Tg) (g : S) : S := fun s => (it s).bind fun p s1 =>
  if (p.2.all fun q => lk' q.1) = true then (loopS t g p.1 s1).bind fun fl s2 => .ok fl (unlockS p.2 s2) else .bad
section
variable {X : Cx} {lk lk' : Nat → Bool} {pos : Pos} {K : PySem.W.Frag}
/-- the closed slots are opened again -/
theorem finish {H0 H1 Hc : Hp} {s1 sc : Sg} {σ σc : St} {Fs0 Fs1 Fsc : Fp} {l : List (Nat × D)} {Gl : List (List Addr)} (E01 : Ev H0 Fs0 H1 Fs1) (hd : Hid K H1 σ Fs1 l Gl) (fr : From H0 Fs0 l Gl)
    (R : RelS K Hc sc σc Fsc) (E : Ev H1 Fs1 Hc Fsc) (L : ∀ p, p ∈ l → σc[p.1]? = σ[p.1]?) :
    ∃ Fs', RelS K Hc (unlockS l sc) σc Fs' ∧ Ev H0 Fs0 Hc Fs' ∧ ∀ j a, a ∈ Fs' j → a ∈ Fsc j ∨ ((∃ xs : MO, Hc a = some xs.ho) ∧ (H1 a ≠ none) ∧ (∀ i, a ∉ Fs1 i) ∧ ∀ i, a ∉ Fsc i) := by
  have hd' := hd.ev E L
  obtain ⟨Fs', R', n⟩ := R.unlock hd' fr
  refine ⟨Fs', R', ⟨(E01.trans E).chg, fun j a h => ?_⟩, fun j a h => ?_⟩
  · rcases n j a h with z | ⟨z, _⟩
    · exact (E01.trans E).new j a z
    · exact z
  · rcases n j a h with z | ⟨_, G, hG, ha⟩
    · exact .inl z
    · obtain ⟨h1, h2⟩ := hd'.mem G hG a ha
      obtain ⟨⟨xs, h3⟩, h4⟩ := hd.mem G hG a ha
      exact .inr ⟨h1, by rw [h3]; simp, h4, h2⟩
theorem ss_for {tg iter : Expr} {body : List Stmt} {it : I} {t : Tg} {g : S} (hp : PassesOwn (model X.prog X.w) X.A X.env X.xe) (hc : X.calm = true) (hi : SimI X tg iter it) (hg : SimG X lk' tg t) (hb : SimSs X lk' body g)
    (hlk : ∀ i, lk i = true → lk' i = true) (hs : ∀ x, foldedSetIterable iter X.env x = pure x := by intro _; rfl) : SimS X lk (.For tg iter body [] pos) (sFor lk' it t g) := by
  refine ps_imp (ps_for hp hc hi hg hb hs) fun D σ H z => ?_
  obtain ⟨s, Fs, fl, s', R, e, q⟩ := z
  obtain ⟨⟨es, l⟩, s1, e1, e⟩ := bind_inv e
  refine ⟨s, Fs, es, l, s1, R, e1, fun J H1 Fs1 Gl G R1 C1 n1 hd fr W hG => ?_⟩
  have E01 : Ev H Fs H1 Fs1 := ⟨C1, n1⟩
  split at e
  · rename_i hall
    obtain ⟨fl', s2, e2, e⟩ := bind_inv e
    have hL : ∀ {σc : St}, Lk lk' σ σc → ∀ p, p ∈ l → σc[p.1]? = σ[p.1]? := fun {σc} L p hp => L p.1 (List.all_eq_true.mp hall p hp)
    have done : ∀ {σc : St} {Hc : Hp} {sc : Sg} {Fsc : Fp}, RelS X.K Hc sc σc Fsc → Ev H1 Fs1 Hc Fsc → Lk lk' σ σc → Res.ok fl' s2 = Res.ok Fl.nx sc → D.nx σc Hc := by
      intro σc Hc sc Fsc Rc Ec Lc ee
      cases ee
      cases e
      obtain ⟨Fs', R', E', _⟩ := finish (s1 := s1) E01 hd fr Rc Ec (hL Lc)
      exact q σc Hc Fs' R' E' fun i hi => Lc i (hlk i hi)
    refine ⟨fun i m σc Hc => m = es.length - i ∧ i ≤ es.length ∧ ∃ sc Fsc, RelS X.K Hc sc σc Fsc ∧ Ev H1 Fs1 Hc Fsc ∧ Lk lk' σ σc ∧ loopS t g (es.drop i) sc = .ok fl' s2,
      ⟨es.length, by simp, Nat.zero_le _, s1, Fs1, R1, .refl _ _, .refl _ _, e2⟩, ?_⟩
    rintro i m σc Hc ⟨rfl, hi, sc, Fsc, Rc, Ec, Lc, ec⟩
    by_cases hlt : i < es.length
    · refine .inr ⟨W.goes i Hc hlt (hG Hc Fsc Ec), fun σ' H' => i + 1 ≤ es.length ∧ ∃ sc Fsc, RelS X.K H' sc σ' Fsc ∧ Ev H1 Fs1 H' Fsc ∧ Lk lk' σ σ' ∧ loopS t g (es.drop (i + 1)) sc = .ok fl' s2, fun σ' H' ⟨h1, h2⟩ => ⟨es.length - (i + 1), by omega, rfl, h1, h2⟩, fun x H' y => ?_⟩
      obtain ⟨d, hd1, sm, o⟩ := W.yields i Hc x H' hlt (hG Hc Fsc Ec) y
      have ed : es.drop i = d :: es.drop (i + 1) := by
        rw [List.drop_eq_getElem_cons hlt]
        rw [List.getElem?_eq_getElem hlt] at hd1
        rw [Option.some.inj hd1]
      rw [ed] at ec
      unfold loopS at ec
      split at ec
      · cases ec
      · rename_i s3 hs3
        obtain ⟨fl3, s4, e4, ec⟩ := bind_inv ec
        refine ⟨sc, Fsc, d, [], s3, Rc.same sm, ⟨o, fun _ _ _ z => by cases z⟩, hs3, fun σ2 Fs2 R2 n2 L2 => ?_⟩
        have E2 : Ev H1 Fs1 H' Fs2 := Ec.trans ⟨.same sm, fun j a h => .inl ((n2 j a h).resolve_right (by simp))⟩
        refine ⟨s3, Fs2, fl3, s4, R2, e4, ?_⟩
        cases fl3 with
        | nx => exact fun σ' H'' Fs' R' E' L' => ⟨hlt, s4, Fs', R', E2.trans E', (Lc.trans L2).trans L', ec⟩
        | ct => exact fun σ' H'' Fs' R' E' L' => ⟨hlt, s4, Fs', R', E2.trans E', (Lc.trans L2).trans L', ec⟩
        | bk => exact fun σ' H'' Fs' R' E' L' => done R' (E2.trans E') ((Lc.trans L2).trans L') ec.symm
        | rt d =>
          cases ec
          cases e
          refine fun v σ' H'' Fs' F R' E' L' o n m => ?_
          have E3 := E2.trans E'
          obtain ⟨Fs'', R'', E'', nn⟩ := finish (s1 := s1) E01 hd fr R' E3 (hL ((Lc.trans L2).trans L'))
          have hF : ∀ a, a ∈ F → H1 a = none ∨ ∃ i, lk' i = false ∧ a ∈ Fs1 i := fun a ha => by
            rcases n a ha with z | ⟨k, hk, z⟩
            · exact .inl (E2.chg.there a z)
            · rcases E2.new k a z with z | z
              · exact .inr ⟨k, hk, z⟩
              · exact .inl z
          refine q v σ' H'' Fs'' F R'' E'' (fun i hi => ((Lc.trans L2).trans L') i (hlk i hi)) o (fun a ha => ?_) fun k a hk hk2 ha => ?_
          · rcases hF a ha with z | ⟨k, hk, z⟩
            · exact .inl (C1.there a z)
            · rcases n1 k a z with z | z
              · refine .inr ⟨k, ?_, z⟩
                cases hq : lk k with
                | false => rfl
                | true => rw [hlk k hq] at hk; cases hk
              · exact .inl z
          · rcases nn k a hk2 with z | ⟨_, h1, h2, h3⟩
            · exact m k a (hlk k hk) z ha
            · rcases hF a ha with z | ⟨k', _, z⟩
              · exact h1 z
              · exact h2 k' z
    · have ei : i = es.length := by omega
      subst ei
      rw [List.drop_length] at ec
      exact .inl ⟨W.stops Hc (hG Hc Fsc Ec), done Rc Ec Lc ec.symm⟩
  · cases e
end
section
variable {X : Cx} {lk : Nat → Bool} {pos : Pos} {K : PySem.W.Frag}
end
def clrS : List Nat → Sg → Sg
  | [], s => s
  | v :: vs, s => (clrS vs s).set v none
def ownSl : List Nat → Sg → List (Nat × D)
  | [], _ => []
  | v :: vs, s => match (s[v]?).join with
    | some d => (v, d) :: ownSl vs s
    | none => ownSl vs s
def compL (t : Tg) (c : T) (e : O) (vs : List Nat) : List D → List D → Sg → Res (List D)
  | [], acc, s => .ok acc s
  | d :: ds, acc, s => match asg t d s with
    | none => .bad
    | some s1 => (c s1).bind fun b s2 => if b = true then (e s2).bind fun r s3 => (match own r s3 with
        | none => .bad
        | some y => if acc.length < 1000000 then compL t c e vs ds (acc ++ [y]) (clrS vs s3) else .bad)
      else compL t c e vs ds acc (clrS vs s2)
def oComp (it : I) (t : Tg) (c : T) (e : O) (vs : List Nat) : O := fun s => (it s).bind fun p s1 =>
  if nodupB ((ownSl vs s1).map (·.1)) = true then (compL t c e vs p.1 [] (clrS vs (lockS (ownSl vs s1) s1))).bind fun acc s2 => .ok (.val (.list acc)) (unlockS (ownSl vs s1 ++ p.2) s2) else .bad
def tYesT : T := fun s => .ok true s
def SimPT (X : Cx) (ifs : List Expr) (c : T) : Prop := PTs X ifs (tT X.K c)
section
variable {X : Cx} {K : PySem.W.Frag}
theorem pts_imp {X : Cx} {e : List Expr} {t t' : TT} (h : PTs X e t) (i : ∀ σ H Q, t' σ H Q → t σ H Q) : PTs X e t' := ⟨fun pins s σ H Q I q => h.run pins s σ H Q I (i σ H Q q)⟩
theorem spt_nil : SimPT X [] tYesT := pts_imp pts_nil fun σ H Q ⟨s, Fs, b, s', R, e, q⟩ => by
  cases e
  exact q H Fs R (.refl _ _)
theorem clrS_len : ∀ (vs : List Nat) (s : Sg), (clrS vs s).length = s.length
  | [], _ => rfl
  | v :: vs, s => by rw [clrS, List.length_set, clrS_len vs s]
theorem clrS_some {vs : List Nat} {s : Sg} {i : Nat} {d : D} (h : (clrS vs s)[i]? = some (some d)) : s[i]? = some (some d) ∧ i ∉ vs := by
  induction vs with
  | nil => exact ⟨h, by simp⟩
  | cons v vs ih =>
    unfold clrS at h
    by_cases hi : v = i
    · subst hi
      by_cases hv : v < (clrS vs s).length
      · rw [List.getElem?_set_self hv] at h; cases h
      · rw [List.getElem?_eq_none (by simpa using hv)] at h; cases h
    · rw [List.getElem?_set_ne hi] at h
      obtain ⟨h1, h2⟩ := ih h
      exact ⟨h1, by simp only [List.mem_cons, not_or]; exact ⟨fun e => hi e.symm, h2⟩⟩
theorem wipe_get {σ : St} {vs : List Nat} {i : Nat} (h : i ∉ vs) : (wipe σ vs)[i]? = σ[i]? := by
  induction vs with
  | nil => rfl
  | cons v vs ih =>
    simp only [List.mem_cons, not_or] at h
    unfold wipe
    rw [List.getElem?_set_ne (fun e => h.1 e.symm), ih h.2]
/-- the own names' slots are emptied, on both sides -/
theorem RelS.clr {H : Hp} {s : Sg} {σ : St} {Fs : Fp} (R : RelS K H s σ Fs) (vs : List Nat) : ∃ Fs', RelS K H (clrS vs s) (wipe σ vs) Fs' ∧ ∀ j a, a ∈ Fs' j → a ∈ Fs j ∧ j ∉ vs := by
  refine ⟨fun j => if j ∈ vs then [] else Fs j, ⟨by rw [clrS_len, wipe_length, R.len], fun i d e => ?_, fun i h => ?_, fun i j a h1 h2 => ?_⟩, fun j a h => ?_⟩
  · obtain ⟨e1, e2⟩ := clrS_some e
    obtain ⟨v, hv, o⟩ := R.has i d e1
    refine ⟨v, by rw [wipe_get e2]; exact hv, ?_⟩
    simp only [if_neg e2]
    exact o
  · by_cases hi : i ∈ vs
    · simp only [if_pos hi]
    · simp only [if_neg hi]
      refine R.off i fun d e => h d ?_
      have key : ∀ (vs : List Nat), i ∉ vs → (clrS vs s)[i]? = s[i]? := fun vs => by
        induction vs with
        | nil => intro _; rfl
        | cons v vs ih =>
          intro h
          simp only [List.mem_cons, not_or] at h
          unfold clrS
          rw [List.getElem?_set_ne (fun e => h.1 e.symm), ih h.2]
      rw [key vs hi]
      exact e
  · split at h1
    · cases h1
    · split at h2
      · cases h2
      · exact R.dis i j a h1 h2
  · have h : a ∈ (if j ∈ vs then [] else Fs j) := h
    split at h
    · cases h
    · exact ⟨h, by assumption⟩
/-- a state without the own names stands for the block's outer slots too -/
theorem RelS.unwipe {H : Hp} {s : Sg} {σ : St} {Fs : Fp} {vs : List Nat} (R : RelS K H s (wipe σ vs) Fs) : RelS K H s σ Fs := by
  refine ⟨by rw [R.len, wipe_length], fun i d e => ?_, R.off, R.dis⟩
  obtain ⟨v, hv, o⟩ := R.has i d e
  exact ⟨v, (wipe_some hv).1, o⟩
theorem ownSl_has {s : Sg} : ∀ {vs : List Nat} {p : Nat × D}, p ∈ ownSl vs s → s[p.1]? = some (some p.2) ∧ p.1 ∈ vs
  | [], _, h => by cases h
  | v :: vs, p, h => by
    unfold ownSl at h
    split at h
    · rename_i d hd
      rcases List.mem_cons.mp h with rfl | h
      · exact ⟨join_some hd, List.mem_cons_self ..⟩
      · obtain ⟨h1, h2⟩ := ownSl_has h
        exact ⟨h1, List.mem_cons_of_mem _ h2⟩
    · obtain ⟨h1, h2⟩ := ownSl_has h
      exact ⟨h1, List.mem_cons_of_mem _ h2⟩
/-- an object that no slot holds changes -/
theorem RelS.out {H : Hp} {s : Sg} {σ : St} {Fs : Fp} (R : RelS K H s σ Fs) {D' : Addr} {acc acc' : List V} (h : H D' = some (.lst acc)) (n : ∀ i, D' ∉ Fs i) : RelS K (upd H D' (.lst acc')) s σ Fs ∧ Chg (fun a => a = D') H (upd H D' (.lst acc')) := by
  have chg : Chg (fun a => a = D') H (upd H D' (.lst acc')) := ⟨fun a ob e c => by
    by_cases ha : a = D'
    · subst ha
      rcases c with c | c
      · exact absurd rfl c
      · rw [h] at e
        cases e
        cases c
    · rw [upd_ne ha]; exact e, fun a e => by
    by_cases ha : a = D'
    · subst ha; rw [upd_same] at e; cases e
    · rw [upd_ne ha] at e; exact e⟩
  refine ⟨⟨R.len, fun i d e => ?_, R.off, R.dis⟩, chg⟩
  obtain ⟨v, hv, o⟩ := R.has i d e
  exact ⟨v, hv, o.chg chg fun a ha w => n i (by rw [← w]; exact ha)⟩
theorem Hid.sub {H : Hp} {σ : St} {Fs Fs' : Fp} {l : List (Nat × D)} {Gs : List (List Addr)} (h : Hid K H σ Fs l Gs) (e : ∀ j a, a ∈ Fs' j → a ∈ Fs j) : Hid K H σ Fs' l Gs := by
  induction h with
  | nil => exact .nil
  | cons hv A n _ ih => exact .cons hv ⟨A.own, fun i a hi ha => A.dis i a (e i a hi) ha⟩ n ih
theorem Hid.append {H : Hp} {σ : St} {Fs : Fp} {l l2 : List (Nat × D)} {Gs Gs2 : List (List Addr)} (h : Hid K H σ Fs l Gs) (h2 : Hid K H σ Fs l2 Gs2) (n : ∀ G, G ∈ Gs → ∀ G2, G2 ∈ Gs2 → ∀ a, a ∈ G → a ∉ G2) : Hid K H σ Fs (l ++ l2) (Gs ++ Gs2) := by
  induction h with
  | nil => exact h2
  | @cons i d v F l Gs hv A n' _ ih =>
    refine .cons hv A (fun G hG a ha hb => ?_) (ih fun G hG => n G (List.mem_cons_of_mem _ hG))
    rcases List.mem_append.mp hG with hG | hG
    · exact n' G hG a ha hb
    · exact n F (List.mem_cons_self ..) G hG a ha hb
theorem From.append {H : Hp} {Fs : Fp} {l l2 : List (Nat × D)} {Gs Gs2 : List (List Addr)} (h : From H Fs l Gs) (h2 : From H Fs l2 Gs2) : From H Fs (l ++ l2) (Gs ++ Gs2) := by
  induction l generalizing Gs with
  | nil => cases Gs with
    | nil => exact h2
    | cons _ _ => exact h.elim
  | cons p l ih => cases Gs with
    | nil => exact h.elim
    | cons F Gs => exact ⟨h.1, ih h.2⟩
theorem From.mem {H : Hp} {Fs : Fp} {l : List (Nat × D)} {Gs : List (List Addr)} (h : From H Fs l Gs) : ∀ G, G ∈ Gs → ∀ a, a ∈ G → (∃ i, a ∈ Fs i) ∨ H a = none := by
  induction l generalizing Gs with
  | nil => cases Gs with
    | nil => intro G h; cases h
    | cons _ _ => exact h.elim
  | cons p l ih => cases Gs with
    | nil => exact h.elim
    | cons F Gs =>
      intro G hG a ha
      rcases List.mem_cons.mp hG with rfl | hG
      · exact (h.1 a ha).imp (fun z => ⟨_, z⟩) id
      · exact ih h.2 G hG a ha
mutual
theorem asg_len : ∀ {t : Tg} {d : Sim.D} {s s' : Sg}, asg t d s = some s' → s'.length = s.length
  | .nm i, d, s, s', h => by
    simp only [asg] at h
    cases h
    rw [List.length_set]
  | .tp l, .tuple ds, s, s', h => asgs_len2 (by simpa [asg] using h)
  | .tp l, .none, s, s', h => by simp [asg] at h
  | .tp l, .bool _, s, s', h => by simp [asg] at h
  | .tp l, .int _, s, s', h => by simp [asg] at h
  | .tp l, .str _, s, s', h => by simp [asg] at h
  | .tp l, .list _, s, s', h => by simp [asg] at h
  | .tp l, .dict _, s, s', h => by simp [asg] at h
  | .ls l, .list ds, s, s', h => asgs_len2 (by simpa [asg] using h)
  | .ls l, .none, s, s', h => by simp [asg] at h
  | .ls l, .bool _, s, s', h => by simp [asg] at h
  | .ls l, .int _, s, s', h => by simp [asg] at h
  | .ls l, .str _, s, s', h => by simp [asg] at h
  | .ls l, .tuple _, s, s', h => by simp [asg] at h
  | .ls l, .dict _, s, s', h => by simp [asg] at h
theorem asgs_len2 : ∀ {l : List Tg} {ds : List Sim.D} {s s' : Sg}, asgs l ds s = some s' → s'.length = s.length
  | [], [], s, s', h => by
    simp only [asgs] at h
    cases h
    rfl
  | [], _ :: _, s, s', h => by simp [asgs] at h
  | _ :: _, [], s, s', h => by simp [asgs] at h
  | t :: l, d :: ds, s, s', h => by
    simp only [asgs] at h
    split at h
    · cases h
    · rename_i s1 h1
      rw [asgs_len2 h, asg_len h1]
end
def lkc (vs : List Nat) : Nat → Bool := fun i => !vs.contains i
theorem wipe_lk {vs : List Nat} {σ σ2 : St} (hl : σ2.length = σ.length) (h : Lk (lkc vs) (wipe σ vs) σ2) : wipe σ2 vs = wipe σ vs := by
  have key : ∀ (σ : St) (vs : List Nat) (i : Nat), i ∈ vs → (wipe σ vs)[i]? = if i < σ.length then some none else none := fun σ vs i => by
    induction vs with
    | nil => intro h; cases h
    | cons v vs ih =>
      intro h
      unfold wipe
      by_cases hv : v = i
      · subst hv
        by_cases hx : v < σ.length
        · rw [List.getElem?_set_self (by rw [wipe_length]; exact hx), if_pos hx]
        · rw [List.getElem?_eq_none (by rw [List.length_set, wipe_length]; omega), if_neg hx]
      · rw [List.getElem?_set_ne hv]
        exact ih ((List.mem_cons.mp h).resolve_left fun e => hv e.symm)
  refine List.ext_getElem? fun i => ?_
  by_cases hi : i ∈ vs
  · rw [key _ _ i hi, key _ _ i hi, hl]
  · rw [wipe_get hi]
    have := h i (by unfold lkc; simp [hi])
    rw [this]
theorem tO_comp {it : I} {t : Tg} {c : T} {e : O} {vs : List Nat} {σ : St} {H : Hp} {Q : VK} (z : tO K (oComp it t c e vs) σ H Q) : tLc (tI K it) (tG K (lkc vs) t) (tT K c) (tO K e) vs σ H Q := by
  obtain ⟨s, Fs, rf, s', R, e0, q⟩ := z
  obtain ⟨⟨es, l⟩, s1, e1, e0⟩ := bind_inv e0
  refine ⟨s, Fs, es, l, s1, R, e1, fun J H1 Fs1 Gl G R1 C1 n1 hd fr W hG => ?_⟩
  split at e0
  · rename_i hnd
    obtain ⟨accF, s2, e2, e0⟩ := bind_inv e0
    obtain ⟨Fs2, Gl2, R2, hd2, sub2, fr2⟩ := R1.lock (fun p hp => (ownSl_has hp).1) hnd
    obtain ⟨Fs3, R3, sub3⟩ := R2.clr vs
    have sub : ∀ j a, a ∈ Fs3 j → a ∈ Fs1 j := fun j a h => sub2 j a (sub3 j a h).1
    have E01 : Ev H Fs H1 Fs3 := ⟨C1, fun j a h => n1 j a (sub j a h)⟩
    have hdA : Hid K H1 σ Fs3 (ownSl vs s1 ++ l) (Gl2 ++ Gl) := (hd2.sub fun j a h => (sub3 j a h).1).append (hd.sub sub) fun G2 hG2 G hG a ha hb => by
      obtain ⟨⟨xs, hx⟩, hn⟩ := hd.mem G hG a hb
      rcases fr2.mem G2 hG2 a ha with ⟨i, z⟩ | z
      · exact hn i z
      · rw [hx] at z; cases z
    have frA : From H Fs (ownSl vs s1 ++ l) (Gl2 ++ Gl) := (fr2.trans n1 fun a h => C1.there a h).append fr
    intro Dn hDn
    have smD : Same H1 (upd H1 Dn (.lst [])) := same_new hDn
    have nD3 : ∀ i, Dn ∉ Fs3 i := fun i h => by
      obtain ⟨xs, w⟩ := R3.mem h
      rw [hDn] at w; cases w
    refine ⟨fun i m Hc => m = es.length - i ∧ i ≤ es.length ∧ ∃ sc Fsc acc accV Facc, RelS K Hc sc (wipe σ vs) Fsc ∧ Ev H1 Fs3 Hc Fsc ∧ Hc Dn = some (.lst accV) ∧ OwnA K Hc acc accV Facc ∧ Dn ∉ Facc ∧ (∀ i, Dn ∉ Fsc i) ∧ (∀ i a, a ∈ Fsc i → a ∉ Facc) ∧ (∀ a, a ∈ Facc → H1 a = none) ∧
      compL t c e vs (es.drop i) acc sc = .ok accF s2, ⟨es.length, by simp, Nat.zero_le _, _, Fs3, [], [], [], R3.same smD, .same _ smD, upd_same, .nil, by simp, nD3, by simp, by simp, e2⟩, ?_⟩
    rintro i m Hc ⟨rfl, hi, sc, Fsc, acc, accV, Facc, Rc, Ec, hDc, oa, nDa, nDf, dja, fra, ec⟩
    have EG : Ev H1 Fs1 Hc Fsc → G Hc := hG Hc Fsc
    have Ec1 : Ev H1 Fs1 Hc Fsc := ⟨⟨fun a o ho cc => Ec.chg.keep a o ho (cc.imp (fun z w => z (w.imp fun i => sub i a)) id), Ec.chg.there⟩, fun j a h => (Ec.new j a h).imp (sub j a) id⟩
    by_cases hlt : i < es.length
    · refine .inr ⟨W.goes i Hc hlt (EG Ec1), fun H' => i + 1 ≤ es.length ∧ ∃ sc Fsc acc accV Facc, RelS K H' sc (wipe σ vs) Fsc ∧ Ev H1 Fs3 H' Fsc ∧ H' Dn = some (.lst accV) ∧ OwnA K H' acc accV Facc ∧ Dn ∉ Facc ∧ (∀ i, Dn ∉ Fsc i) ∧ (∀ i a, a ∈ Fsc i → a ∉ Facc) ∧ (∀ a, a ∈ Facc → H1 a = none) ∧
        compL t c e vs (es.drop (i + 1)) acc sc = .ok accF s2, fun H' ⟨h1, h2⟩ => ⟨es.length - (i + 1), by omega, rfl, h1, h2⟩, fun x H' y => ?_⟩
      obtain ⟨d, hd1, sm, o⟩ := W.yields i Hc x H' hlt (EG Ec1) y
      have ed : es.drop i = d :: es.drop (i + 1) := by
        rw [List.drop_eq_getElem_cons hlt]
        rw [List.getElem?_eq_getElem hlt] at hd1
        rw [Option.some.inj hd1]
      rw [ed] at ec
      unfold compL at ec
      split at ec
      · cases ec
      · rename_i s3 hs3
        obtain ⟨b, s4, e4, ec⟩ := bind_inv ec
        refine ⟨sc, Fsc, d, [], s3, Rc.same sm, ⟨o, fun _ _ _ z => by cases z⟩, hs3, fun σ2 Fs4 R4 n4 L4 => ?_⟩
        have hw : wipe σ2 vs = wipe σ vs := wipe_lk (by
          have l1 := R4.len
          have l2 := Rc.len
          have l3 := asg_len hs3
          rw [wipe_length] at l2
          omega) L4
        refine ⟨hw, ?_⟩
        · skip
          have E4 : Ev H1 Fs3 H' Fs4 := Ec.trans ⟨.same sm, fun j a h => .inl ((n4 j a h).resolve_right (by simp))⟩
          have nD4 : ∀ i, Dn ∉ Fs4 i := fun i h => nDf i ((n4 i Dn h).resolve_right (by simp))
          have dj4 : ∀ i a, a ∈ Fs4 i → a ∉ Facc := fun i a h => dja i a ((n4 i a h).resolve_right (by simp))
          refine ⟨s3, Fs4, b, s4, R4, e4, fun H3 Fs5 R5 E5 => ?_⟩
          -- what a test or an item's reckoning leaves of the new list
          have keepD : ∀ {H3 : Hp} {Fs5 : Fp}, Ev H' Fs4 H3 Fs5 → H3 Dn = some (.lst accV) ∧ OwnA K H3 acc accV Facc ∧ (∀ i, Dn ∉ Fs5 i) ∧ (∀ i a, a ∈ Fs5 i → a ∉ Facc) := fun {H3 Fs5} E5 => by
            have h1 : H' Dn = some (.lst accV) := sm _ _ hDc
            have o1 : OwnA K H' acc accV Facc := oa.chg (Fa := fun _ => False) (.same sm) fun _ _ z => z
            refine ⟨E5.chg.keep _ _ h1 (.inl fun ⟨i, w⟩ => nD4 i w), o1.chg E5.chg fun a ha ⟨i, w⟩ => dj4 i a w ha, fun i h => ?_, fun i a h ha => ?_⟩
            · rcases E5.new i Dn h with w | w
              · exact nD4 i w
              · rw [h1] at w; cases w
            · rcases E5.new i a h with w | w
              · exact dj4 i a w ha
              · obtain ⟨xs, z⟩ := o1.mem a ha
                rw [w] at z; cases z
          cases b with
          | false =>
            rw [if_neg Bool.false_ne_true] at ec
            refine iteF ⟨hlt, ?_⟩
            obtain ⟨h1, h2, h3, h4⟩ := keepD E5
            obtain ⟨Fs6, R6, sub6⟩ := R5.clr vs
            rw [hw] at R6
            exact ⟨_, Fs6, acc, accV, Facc, R6, E4.trans ⟨E5.chg, fun j a h => E5.new j a (sub6 j a h).1⟩, h1, h2, nDa, fun i h => h3 i (sub6 i _ h).1, fun i a h => h4 i a (sub6 i a h).1, fra, ec⟩
          | true =>
            rw [if_pos rfl] at ec
            refine iteT ?_
            obtain ⟨r, s6, e6, ec⟩ := bind_inv ec
            refine ⟨s4, Fs5, r, s6, R5, e6, fun v H4 Fs6 F R6 E6 k6 n6 => ?_⟩
            split at ec
            · cases ec
            · rename_i y hy
              split at ec
              · rename_i hlen
                have A6 := rfOk_own k6 R6 hy
                have E56 := E5.trans E6
                obtain ⟨h1, h2, h3, h4⟩ := keepD E56
                have n6' : ∀ a, a ∈ F → H' a = none := fun a ha => E5.chg.there a (n6 a ha)
                have h1' : H' Dn = some (.lst accV) := sm _ _ hDc
                have o1' : OwnA K H' acc accV Facc := oa.chg (Fa := fun _ => False) (.same sm) fun _ _ z => z
                obtain ⟨Facc', t', hF'⟩ := OwnA.snoc A6.own h2 fun a ha hb => by
                  obtain ⟨xs, z⟩ := o1'.mem a ha
                  rw [n6' a hb] at z; cases z
                have nDn : Dn ∉ Facc' := fun w => by
                  rcases hF' Dn w with w | w
                  · exact nDa w
                  · rw [n6' Dn w] at h1'; cases h1'
                refine ⟨accV, h1, by rw [h2.len]; exact Nat.lt_of_lt_of_le hlen big_le, hlt, ?_⟩
                obtain ⟨R7, C7⟩ := R6.out (acc' := accV ++ [v]) h1 h3
                obtain ⟨Fs8, R8, sub8⟩ := R7.clr vs
                rw [hw] at R8
                refine ⟨_, Fs8, acc ++ [y], accV ++ [v], Facc', R8, ?_, upd_same, t'.chg C7 fun a ha w => nDn (by rw [← w]; exact ha), nDn, fun i h => h3 i (sub8 i _ h).1, fun i a h ha => ?_, fun a ha => ?_, ec⟩
                · have E7 := E4.trans E56
                  refine ⟨⟨fun a ob ho cc => ?_, fun a ha => E7.chg.there a (C7.there a ha)⟩, fun j a h => E7.new j a (sub8 j a h).1⟩
                  refine C7.keep a ob (E7.chg.keep a ob ho cc) (.inl fun w => ?_)
                  rw [w, hDn] at ho; cases ho
                · rcases hF' a ha with w | w
                  · exact h4 i a (sub8 i a h).1 w
                  · exact A6.dis i a (sub8 i a h).1 w
                · rcases hF' a ha with w | w
                  · exact fra a w
                  · exact E4.chg.there a (n6' a w)
              · cases ec
    · have ei : i = es.length := by omega
      subst ei
      rw [List.drop_length] at ec
      cases ec
      cases e0
      refine .inl ⟨W.stops Hc (EG Ec1), ?_⟩
      obtain ⟨Fs', R', E', nn⟩ := finish (s1 := s1) E01 hdA frA Rc.unwipe Ec fun _ _ => rfl
      refine q (.ref Dn) Hc Fs' (Dn :: Facc) R' E' (.val ⟨.lst hDc oa nDa, fun j a h ha => ?_⟩) fun a ha => ?_
      · rcases nn j a h with w | ⟨_, w, _, _⟩
        · rcases List.mem_cons.mp ha with rfl | ha
          · exact nDf j w
          · exact dja j a w ha
        · rcases List.mem_cons.mp ha with rfl | ha
          · exact w hDn
          · exact w (fra a ha)
      · rcases List.mem_cons.mp ha with rfl | ha
        · exact C1.there _ hDn
        · exact C1.there _ (fra a ha)
  · cases e0
theorem so_comp {elt tg iter : Expr} {ifs : List Expr} {scope : Scope} {own : List (Str × Nat)} {pos : Pos} {it : I} {t : Tg} {c : T} {e : O} (hc : X.calm = true) (hN : X.N.Nodup) (hi : SimI X tg iter it) (ok : BlkOk X.N X.env.scope scope own)
    (hg : ∀ (s : Shared) (H : Hp) (C : Addr) (cl : List (Str × Addr)) (fp : List Addr), SimG (X.blk s H scope (compEnvC scope cl C X.env) fp) (lkc (own.map (·.2))) tg t) (ht : ∀ (s : Shared) (H : Hp) (C : Addr) (cl : List (Str × Addr)) (fp : List Addr), SimPT (X.blk s H scope (compEnvC scope cl C X.env) fp) ifs c)
    (he : ∀ (s : Shared) (H : Hp) (C : Addr) (cl : List (Str × Addr)) (fp : List Addr), SimO (X.blk s H scope (compEnvC scope cl C X.env) fp) elt e) (hs : ∀ x, foldedSetIterable iter X.env x = pure x := by intro _; rfl) :
    SimO X (.ListComp elt [⟨tg, iter, ifs, 0⟩] scope pos) (oComp it t c e (own.map (·.2))) := by
  have hg' : ∀ (s : Shared) (H : Hp) (C : Addr) (cl : List (Str × Addr)) (fp : List Addr), PG (X.blk s H scope (compEnvC scope cl C X.env) fp) tg (tG X.K (lkc (own.map (·.2))) t) := hg
  have ht' : ∀ (s : Shared) (H : Hp) (C : Addr) (cl : List (Str × Addr)) (fp : List Addr), PTs (X.blk s H scope (compEnvC scope cl C X.env) fp) ifs (tT X.K c) := ht
  have he' : ∀ (s : Shared) (H : Hp) (C : Addr) (cl : List (Str × Addr)) (fp : List Addr), PE (X.blk s H scope (compEnvC scope cl C X.env) fp) elt (tO X.K e) := he
  exact pe_imp (pe_lc hc hN hi ok hg' ht' he' hs) fun σ H Q z => tO_comp z
end
end Sim
namespace Sim
open PySem PySem.Spec L2
inductive FRes where
  | ok (r : D) (as : List D)
  | exc (c : Str) (v : D)
  | bad
abbrev Fn := List D → FRes
/-- the arguments, each with the places that it holds -/
inductive OwnLs (K : PySem.W.Frag) (H : Hp) : List D → List V → List (List Addr) → Prop
  | nil : OwnLs K H [] [] []
  | cons {d : D} {v : V} {F : List Addr} {ds : List D} {vs : List V} {Fl : List (List Addr)} : Own K H d v F → (∀ G, G ∈ Fl → ∀ a, a ∈ F → a ∉ G) → OwnLs K H ds vs Fl → OwnLs K H (d :: ds) (v :: vs) (F :: Fl)
def NewL (H : Hp) : List (List Addr) → List (List Addr) → Prop
  | [], [] => True
  | F :: Fl, F' :: Fl' => (∀ a, a ∈ F' → a ∈ F ∨ H a = none) ∧ NewL H Fl Fl'
  | _, _ => False
def spF (K : PySem.W.Frag) (n : Nat) (f : Fn) : Sp := fun vs H Q E => ∃ ds Fl r as, f ds = .ok r as ∧ vs.length = n ∧ OwnLs K H ds vs Fl ∧
  ∀ v H' Fl' F, OwnLs K H' as vs Fl' → Chg (fun a => ∃ G, G ∈ Fl ∧ a ∈ G) H H' → NewL H Fl Fl' → Own K H' r v F → (∀ a, a ∈ F → H a = none) → (∀ G, G ∈ Fl' → ∀ a, a ∈ G → a ∉ F) → Q v H'
def lkz : List Rf → List D → List D → List (Nat × D)
  | .slot i :: rs, d :: ds, a :: as => if pur d = true then lkz rs ds as else (i, a) :: lkz rs ds as
  | .val _ :: rs, _ :: ds, _ :: as => lkz rs ds as
  | _, _, _ => []
def oCall (f : Fn) (g : AL) : O := fun s => (g s).bind fun rs s1 => match rds rs s1 with
  | none => .bad
  | some ds => if nodupB ((lks rs ds).map (·.1)) = true then (match f ds with
      | .ok r as => .ok (.val r) (unlockS (lkz rs ds as) (lockS (lks rs ds) s1))
      | .exc c v => .exc c v s1
      | .bad => .bad) else .bad
section
variable {K : PySem.W.Frag} {H H' : Hp} {σ : St} {Fs : Fp}
theorem OwnLs.mem {ds : List D} {vs : List V} {Fl : List (List Addr)} (h : OwnLs K H ds vs Fl) : ∀ G, G ∈ Fl → ∀ a, a ∈ G → ∃ xs : MO, H a = some xs.ho := by
  induction h with
  | nil => intro G h; cases h
  | cons o _ _ ih =>
    intro G hG a ha
    rcases List.mem_cons.mp hG with rfl | hG
    · exact o.mem a ha
    · exact ih G hG a ha
theorem OwnLs.len {ds : List D} {vs : List V} {Fl : List (List Addr)} (h : OwnLs K H ds vs Fl) : vs.length = ds.length := by
  induction h with
  | nil => rfl
  | cons _ _ _ ih => rw [List.length_cons, List.length_cons, ih]
/-- which argument is which closed slot's -/
def Al : List Rf → List D → List (List Addr) → List (List Addr) → Prop
  | [], [], [], [] => True
  | .val _ :: rs, _ :: ds, Gl, _ :: Fl => Al rs ds Gl Fl
  | .slot _ :: rs, d :: ds, Gl, F :: Fl => if pur d = true then Al rs ds Gl Fl else (match Gl with
    | [] => False
    | G :: Gl => G = F ∧ Al rs ds Gl Fl)
  | _, _, _, _ => False
/-- the operands of a call as its arguments -/
theorem args_own {s : Sg} {FsL : Fp} (R : RelS K H s σ Fs) {rs : List Rf} {vs : List V} {Gs : List (List Addr)} (r : Rfs K H σ Fs rs vs Gs) : ∀ {ds : List D} {Gl : List (List Addr)}, rds rs s = some ds → Hid K H σ FsL (lks rs ds) Gl → From H Fs (lks rs ds) Gl →
    ∃ Fl, OwnLs K H ds vs Fl ∧ (∀ F, F ∈ Fl → ∀ a, a ∈ F → (∃ G, G ∈ Gs ∧ a ∈ G) ∨ ∃ G, G ∈ Gl ∧ a ∈ G) ∧ Al rs ds Gl Fl := by
  induction r with
  | nil =>
    intro ds Gl e hd _
    cases e
    cases hd
    exact ⟨[], .nil, by simp, trivial⟩
  | @val d v F rs vs Gs A n r ih =>
    intro ds Gl e hd fr
    unfold rds at e
    simp only [rd] at e
    split at e
    · cases e
    · rename_i es he
      cases e
      obtain ⟨Fl, h1, h2, h0⟩ := ih he (by simpa [lks] using hd) (by simpa [lks] using fr)
      refine ⟨F :: Fl, .cons A.own (fun G hG a ha hb => ?_) h1, fun G hG a ha => ?_, by simpa [Al] using h0⟩
      · rcases h2 G hG a hb with ⟨G', hG', h⟩ | ⟨G', hG', h⟩
        · exact n G' hG' a ha h
        · rcases fr.mem G' (by simpa [lks] using hG') a h with ⟨i, z⟩ | z
          · exact A.dis i a z ha
          · obtain ⟨xs, w⟩ := A.own.mem a ha
            rw [z] at w; cases w
      · rcases List.mem_cons.mp hG with rfl | hG
        · exact .inl ⟨_, List.mem_cons_self .., ha⟩
        · rcases h2 G hG a ha with ⟨G', hG', h⟩ | h
          · exact .inl ⟨G', List.mem_cons_of_mem _ hG', h⟩
          · exact .inr h
  | @slot i v rs vs Gs hv r ih =>
    intro ds Gl e hd fr
    unfold rds at e
    simp only [rd] at e
    split at e
    · cases e
    · rename_i d hd0
      split at e
      · cases e
      · rename_i es he
        cases e
        obtain ⟨v', hv', o⟩ := R.has i d (join_some hd0)
        rw [hv] at hv'
        cases hv'
        by_cases hp : pur d = true
        · have el : lks (.slot i :: rs) (d :: es) = lks rs es := by rw [lks, if_pos hp]
          rw [el] at hd fr
          obtain ⟨Fl, h1, h2, h0⟩ := ih he hd fr
          rw [o.pur hp] at o
          refine ⟨[] :: Fl, .cons o (by simp) h1, fun G hG a ha => ?_, by unfold Al; rw [if_pos hp]; exact h0⟩
          rcases List.mem_cons.mp hG with rfl | hG
          · cases ha
          · rcases h2 G hG a ha with ⟨G', hG', h⟩ | h
            · exact .inl ⟨G', List.mem_cons_of_mem _ hG', h⟩
            · exact .inr h
        · have el : lks (.slot i :: rs) (d :: es) = (i, d) :: lks rs es := by rw [lks, if_neg hp]
          rw [el] at hd fr
          cases hd with
          | @cons _ _ v2 F _ Gl hv2 A n hd =>
            rw [hv] at hv2
            cases hv2
            obtain ⟨Fl, h1, h2, h0⟩ := ih he hd fr.2
            refine ⟨F :: Fl, .cons A.own (fun G hG a ha hb => ?_) h1, fun G hG a ha => ?_, by unfold Al; rw [if_neg hp]; exact ⟨rfl, h0⟩⟩
            · rcases h2 G hG a hb with ⟨G', hG', h⟩ | ⟨G', hG', h⟩
              · -- another operand's own value stands apart from all slots
                have key : ∀ {rs : List Rf} {vs : List V} {Gs : List (List Addr)}, Rfs K H σ Fs rs vs Gs → G' ∈ Gs → ∀ i, a ∉ Fs i := fun {rs vs Gs} r => by
                  induction r with
                  | nil => intro h; cases h
                  | val A _ _ ih =>
                    intro hh i hi
                    rcases List.mem_cons.mp hh with e1 | hh
                    · exact A.dis i a hi (by rw [← e1]; exact h)
                    · exact ih hh i hi
                  | slot _ _ ih =>
                    intro hh i hi
                    rcases List.mem_cons.mp hh with e1 | hh
                    · rw [e1] at h; cases h
                    · exact ih hh i hi
                rcases fr.1 a ha with z | z
                · exact key r hG' _ z
                · obtain ⟨xs, w⟩ := A.own.mem a ha
                  rw [z] at w; cases w
              · exact n G' hG' a ha h
            · rcases List.mem_cons.mp hG with rfl | hG
              · exact .inr ⟨_, List.mem_cons_self .., ha⟩
              · rcases h2 G hG a ha with ⟨G', hG', h⟩ | ⟨G', hG', h⟩
                · exact .inl ⟨G', List.mem_cons_of_mem _ hG', h⟩
                · exact .inr ⟨G', List.mem_cons_of_mem _ hG', h⟩
/-- behind the call: what the slots' lists came to -/
theorem args_back {H0 : Hp} {Fs0 FsL : Fp} {s : Sg} (R : RelS K H s σ Fs) {rs : List Rf} {vs : List V} {Gs : List (List Addr)} (r : Rfs K H σ Fs rs vs Gs) : ∀ {ds as : List D} {Gl Fl Fl' : List (List Addr)}, rds rs s = some ds → Hid K H σ FsL (lks rs ds) Gl → From H0 Fs0 (lks rs ds) Gl → Al rs ds Gl Fl →
    OwnLs K H ds vs Fl → OwnLs K H' as vs Fl' → NewL H Fl Fl' → (∀ i a, a ∈ FsL i → (∀ F, F ∈ Fl → a ∉ F) ∧ H a ≠ none) → (∀ a, H a = none → H0 a = none) →
    ∃ Gl', Hid K H' σ FsL (lkz rs ds as) Gl' ∧ From H0 Fs0 (lkz rs ds as) Gl' ∧ ∀ G, G ∈ Gl' → G ∈ Fl' := by
  induction r with
  | nil =>
    intro ds as Gl Fl Fl' e hd fr al o o' nl _ _
    cases e
    exact ⟨[], .nil, trivial, by simp⟩
  | @val d v F rs vs Gs A n r ih =>
    intro ds as Gl Fl Fl' e hd fr al o o' nl ap th
    unfold rds at e
    simp only [rd] at e
    split at e
    · cases e
    · rename_i es he
      cases e
      cases o with
      | cons o1 n1 o =>
        cases o' with
        | cons o1' n1' o' =>
          obtain ⟨Gl', h1, h2, h3⟩ := ih he (by simpa [lks] using hd) (by simpa [lks] using fr) (by simpa [Al] using al) o o' nl.2 (fun i a h => ⟨fun F hF => (ap i a h).1 F (List.mem_cons_of_mem _ hF), (ap i a h).2⟩) th
          exact ⟨Gl', by simpa [lkz] using h1, by simpa [lkz] using h2, fun G hG => List.mem_cons_of_mem _ (h3 G hG)⟩
  | @slot i v rs vs Gs hv r ih =>
    intro ds as Gl Fl Fl' e hd fr al o o' nl ap th
    unfold rds at e
    simp only [rd] at e
    split at e
    · cases e
    · rename_i d hd0
      split at e
      · cases e
      · rename_i es he
        cases e
        cases o with
        | @cons _ _ F0 _ _ Fl0 o1 n1 o =>
          cases o' with
          | @cons a' _ F' as' _ Fl' o1' n1' o' =>
            have ap' : ∀ i a, a ∈ FsL i → (∀ F, F ∈ Fl0 → a ∉ F) ∧ H a ≠ none := fun i a h => ⟨fun F hF => (ap i a h).1 F (List.mem_cons_of_mem _ hF), (ap i a h).2⟩
            by_cases hp : pur d = true
            · have el : lks (.slot i :: rs) (d :: es) = lks rs es := by rw [lks, if_pos hp]
              have el' : lkz (.slot i :: rs) (d :: es) (a' :: as') = lkz rs es as' := by rw [lkz, if_pos hp]
              rw [el] at hd fr
              rw [el']
              obtain ⟨Gl', h1, h2, h3⟩ := ih he hd fr (by unfold Al at al; rw [if_pos hp] at al; exact al) o o' nl.2 ap' th
              exact ⟨Gl', h1, h2, fun G hG => List.mem_cons_of_mem _ (h3 G hG)⟩
            · have el : lks (.slot i :: rs) (d :: es) = (i, d) :: lks rs es := by rw [lks, if_neg hp]
              have el' : lkz (.slot i :: rs) (d :: es) (a' :: as') = (i, a') :: lkz rs es as' := by rw [lkz, if_neg hp]
              rw [el] at hd fr
              rw [el']
              cases hd with
              | @cons _ _ v2 F _ Gl hv2 A n hd =>
                rw [hv] at hv2
                cases hv2
                unfold Al at al
                rw [if_neg hp] at al
                obtain ⟨e0, al⟩ := al
                subst e0
                obtain ⟨Gl', h1, h2, h3⟩ := ih he hd fr.2 al o o' nl.2 ap' th
                refine ⟨F' :: Gl', .cons hv ⟨o1', fun j a hj ha => ?_⟩ (fun G hG a ha hb => n1' G (h3 G hG) a ha hb) h1, ⟨fun a ha => ?_, h2⟩, fun G hG => ?_⟩
                · rcases nl.1 a ha with z | z
                  · exact (ap j a hj).1 _ (List.mem_cons_self ..) z
                  · exact (ap j a hj).2 z
                · rcases nl.1 a ha with z | z
                  · exact fr.1 a z
                  · exact .inr (th a z)
                · rcases List.mem_cons.mp hG with rfl | hG
                  · exact List.mem_cons_self ..
                  · exact List.mem_cons_of_mem _ (h3 G hG)
theorem NewL.mem {Fl Fl' : List (List Addr)} (h : NewL H Fl Fl') : ∀ G, G ∈ Fl' → ∀ a, a ∈ G → (∃ F, F ∈ Fl ∧ a ∈ F) ∨ H a = none := by
  induction Fl generalizing Fl' with
  | nil => cases Fl' with
    | nil => intro G h; cases h
    | cons _ _ => exact h.elim
  | cons F Fl ih => cases Fl' with
    | nil => exact h.elim
    | cons F' Fl' =>
      intro G hG a ha
      rcases List.mem_cons.mp hG with rfl | hG
      · exact (h.1 a ha).imp (fun z => ⟨F, List.mem_cons_self .., z⟩) id
      · exact (ih h.2 G hG a ha).imp (fun ⟨F, h1, h2⟩ => ⟨F, List.mem_cons_of_mem _ h1, h2⟩) id
theorem tO_call {f : Fn} {n : Nat} {g : AL} {Q : VK} {E : XK} (z : tO K (oCall f g) σ H Q) (hn : ∀ ds r as, f ds = .ok r as → ds.length = n) : tA K g σ H fun vs H1 => spF K n f vs H1 Q E := by
  obtain ⟨s, Fs, rf, s', R, e, q⟩ := z
  obtain ⟨rs, s1, e1, e⟩ := bind_inv e
  refine ⟨s, Fs, rs, s1, R, e1, fun vs H1 Fs1 Gs R1 E1 k1 n1 => ?_⟩
  split at e
  · cases e
  · rename_i ds hds
    split at e
    · rename_i hnd
      split at e
      · rename_i r as hf
        cases e
        obtain ⟨FsL, Gl, RL, hd, sub, fr⟩ := R1.lock (lks_has k1 hds) hnd
        obtain ⟨Fl, ol, hl, al⟩ := args_own (FsL := FsL) R1 k1 hds hd fr
        have apart : ∀ i a, a ∈ FsL i → (∀ F, F ∈ Fl → a ∉ F) ∧ H1 a ≠ none := fun i a h => by
          refine ⟨fun F hF ha => ?_, fun w => ?_⟩
          · rcases hl F hF a ha with ⟨G, hG, hb⟩ | ⟨G, hG, hb⟩
            · have key : ∀ {rs : List Rf} {vs : List V} {Gs : List (List Addr)}, Rfs K H1 σ Fs1 rs vs Gs → G ∈ Gs → ∀ i, a ∉ Fs1 i := fun {rs vs Gs} r => by
                induction r with
                | nil => intro h; cases h
                | val A _ _ ih =>
                  intro hh i hi
                  rcases List.mem_cons.mp hh with e1 | hh
                  · exact A.dis i a hi (by rw [← e1]; exact hb)
                  · exact ih hh i hi
                | slot _ _ ih =>
                  intro hh i hi
                  rcases List.mem_cons.mp hh with e1 | hh
                  · rw [e1] at hb; cases hb
                  · exact ih hh i hi
              exact key k1 hG i (sub i a h)
            · exact (hd.mem G hG a hb).2 i h
          · obtain ⟨xs, y⟩ := RL.mem h
            rw [w] at y; cases y
        refine ⟨ds, Fl, r, as, hf, by rw [ol.len]; exact hn _ _ _ hf, ol, fun v H2 Fl' F ol' c nl o nF dj => ?_⟩
        have R2 : RelS K H2 (lockS (lks rs ds) s1) σ FsL := ⟨RL.len, fun i d e => by
          obtain ⟨v, hv, o⟩ := RL.has i d e
          exact ⟨v, hv, o.chg c fun a ha ⟨G, hG, hb⟩ => (apart i a ha).1 G hG hb⟩, RL.off, RL.dis⟩
        obtain ⟨Gl', hd', fr', sub'⟩ := args_back (H0 := H) (Fs0 := Fs) R1 k1 hds hd (fr.trans E1.new fun a h => E1.chg.there a h) al ol ol' nl apart fun a h => E1.chg.there a h
        obtain ⟨Fs', R', n'⟩ := R2.unlock hd' fr'
        refine q v H2 Fs' F R' ⟨⟨fun a ob ho cc => ?_, fun a h => E1.chg.there a (c.there a h)⟩, fun j a h => ?_⟩ (.val ⟨o, fun j a h ha => ?_⟩) fun a ha => E1.chg.there a (nF a ha)
        · refine c.keep a ob (E1.chg.keep a ob ho cc) (cc.imp (fun w ⟨G, hG, hb⟩ => ?_) id)
          rcases hl G hG a hb with ⟨G', hG', h⟩ | ⟨G', hG', h⟩
          · rw [n1 G' hG' a h] at ho; cases ho
          · rcases fr.mem G' hG' a h with ⟨i, z⟩ | z
            · rcases E1.new i a z with z | z
              · exact w ⟨i, z⟩
              · rw [z] at ho; cases ho
            · rw [E1.chg.there a z] at ho; cases ho
        · rcases n' j a h with z | ⟨z, _⟩
          · exact E1.new j a (sub j a z)
          · exact z
        · rcases n' j a h with z | ⟨_, G, hG, hb⟩
          · exact (apart j a z).2 (nF a ha)
          · exact dj G (sub' G hG) a hb ha
      · cases e
      · cases e
    · cases e
end
def coll : List Nat → List D → Nat → Sg → Option (List D)
  | [], [], _, _ => some []
  | m :: ms, d :: ds, j, s => match coll ms ds (j + 1) s with
    | none => none
    | some as => if m = 0 then (match (s[j]?).join with
      | none => none
      | some d' => some (d' :: as)) else some (d :: as)
  | _, _, _, _ => none
/-- which parameters' names keep what they hold -/
def lkM (ms : List Nat) : Nat → Bool := fun i => ms[i]? == some 0
def okM : List Nat → List D → Bool
  | [], [] => true
  | m :: ms, d :: ds => (m == 0 || pur d) && okM ms ds
  | _, _ => false
/-- n names in all, the parameters by their modes: 0 keeps its name's value, 1 holds what has no list -/
def mkFn (ms : List Nat) (n : Nat) (g : S) : Fn := fun ds => if okM ms ds = true then (match g (ds.map some ++ List.replicate (n - ds.length) none) with
    | .ok fl s => (match coll ms ds 0 s with
      | none => .bad
      | some as => (match fl with
        | .nx => .ok .none as
        | .rt d => .ok d as
        | _ => .bad))
    | .exc c v _ => .exc c v
    | .bad => .bad) else .bad
section
variable {K : PySem.W.Frag} {H H' : Hp}
theorem okM_len : ∀ {ms : List Nat} {ds : List D}, okM ms ds = true → ds.length = ms.length
  | [], [], _ => rfl
  | m :: ms, d :: ds, h => by
    simp only [okM, Bool.and_eq_true] at h
    rw [List.length_cons, List.length_cons, okM_len h.2]
  | [], _ :: _, h => by simp [okM] at h
  | _ :: _, [], h => by simp [okM] at h
theorem mkFn_len {ms : List Nat} {n : Nat} {g : S} {ds : List D} {r : D} {as : List D} (h : mkFn ms n g ds = .ok r as) : ds.length = ms.length := by
  unfold mkFn at h
  split at h
  · rename_i hk
    exact okM_len hk
  · cases h
/-- the arguments as the first slots -/
theorem relS_start {ds : List D} {vs : List V} {Fl : List (List Addr)} (h : OwnLs K H ds vs Fl) (m : Nat) : RelS K H (ds.map some ++ List.replicate m none) (vs.map some ++ List.replicate m none) (fun j => Fl.getD j []) := by
  have hl := h.len
  have key : ∀ (i : Nat) (d : D), ds[i]? = some d → ∃ v F, vs[i]? = some v ∧ Fl[i]? = some F ∧ Own K H d v F := by
    clear hl
    induction h with
    | nil => intro i d h; simp at h
    | @cons d v F ds vs Fl o n _ ih =>
      intro i d' e
      cases i with
      | zero => simp at e; subst e; exact ⟨v, F, rfl, rfl, o⟩
      | succ i => exact ih i d' (by simpa using e)
  have lenF : Fl.length = ds.length := by
    clear key hl
    induction h with
    | nil => rfl
    | cons _ _ _ ih => rw [List.length_cons, List.length_cons, ih]
  have dj : ∀ (i j : Nat) (F G : List Addr) (a : Addr), Fl[i]? = some F → Fl[j]? = some G → a ∈ F → a ∈ G → i = j := by
    clear key hl lenF
    induction h with
    | nil => intro i j F G a h; simp at h
    | @cons d v F0 ds vs Fl o n _ ih =>
      intro i j F G a h1 h2 h3 h4
      cases i with
      | zero => cases j with
        | zero => rfl
        | succ j =>
          simp at h1
          subst h1
          exact absurd h4 (n G (List.mem_of_getElem? (by simpa using h2)) a h3)
      | succ i => cases j with
        | zero =>
          simp at h2
          subst h2
          exact absurd h3 (n F (List.mem_of_getElem? (by simpa using h1)) a h4)
        | succ j => rw [ih i j F G a (by simpa using h1) (by simpa using h2) h3 h4]
  refine ⟨by simp [hl], fun i d e => ?_, fun i e => ?_, fun i j a h1 h2 => ?_⟩
  · by_cases hi : i < ds.length
    · rw [List.getElem?_append_left (by simpa using hi), List.getElem?_map] at e
      cases hd : ds[i]? with
      | none => rw [hd] at e; cases e
      | some d' =>
        rw [hd] at e
        cases e
        obtain ⟨v, F, hv, hF, o⟩ := key i d hd
        refine ⟨v, by rw [List.getElem?_append_left (by simp; omega), List.getElem?_map, hv]; rfl, ?_⟩
        show Own K H d v (Fl.getD i [])
        rw [List.getD_eq_getElem?_getD, hF]
        exact o
    · rw [List.getElem?_append_right (by simpa using hi), List.getElem?_replicate] at e
      split at e <;> cases e
  · show Fl.getD i [] = []
    by_cases hi : i < ds.length
    · exfalso
      refine e ds[i] ?_
      rw [List.getElem?_append_left (by simpa using hi), List.getElem?_map, List.getElem?_eq_getElem hi]
      rfl
    · rw [List.getD_eq_getElem?_getD, List.getElem?_eq_none (by omega)]
      rfl
  · have f1 : ∀ {i : Nat}, a ∈ Fl.getD i [] → ∃ F, Fl[i]? = some F ∧ a ∈ F := fun {i} h => by
      rw [List.getD_eq_getElem?_getD] at h
      cases e : Fl[i]? with
      | none => rw [e] at h; cases h
      | some F => rw [e] at h; exact ⟨F, rfl, h⟩
    obtain ⟨F, e1, m1⟩ := f1 h1
    obtain ⟨G, e2, m2⟩ := f1 h2
    exact dj i j F G a e1 e2 m1 m2
/-- the arguments behind the body -/
theorem coll_own {Fs' : Fp} {s : Sg} {σ' : St} (R : RelS K H' s σ' Fs') (c : Chg (fun _ => True) H H') (new : ∀ i a, a ∈ Fs' i → H' a ≠ none) : ∀ {ms : List Nat} {ds : List D} {vs : List V} {Fl : List (List Addr)} {as : List D} (j : Nat),
    OwnLs K H ds vs Fl → okM ms ds = true → coll ms ds j s = some as → (∀ i, i < ms.length → ms[i]? = some 0 → σ'[j + i]? = (vs[i]?).map some) → (∀ i a, a ∈ Fs' (j + i) → i < Fl.length → a ∈ Fl.getD i [] ∨ H a = none) →
    ∃ Fl', OwnLs K H' as vs Fl' ∧ NewL H Fl Fl' ∧ ∀ G, G ∈ Fl' → ∀ a, a ∈ G → ∃ i, j ≤ i ∧ ms[i - j]? = some 0 ∧ a ∈ Fs' i := by
  intro ms
  induction ms with
  | nil =>
    intro ds vs Fl as j o ok e L n
    cases ds with
    | cons _ _ => simp [okM] at ok
    | nil =>
      simp only [coll] at e
      cases e
      cases o
      exact ⟨[], .nil, trivial, by simp⟩
  | cons m ms ih =>
    intro ds vs Fl as j o ok e L n
    cases ds with
    | nil => simp [okM] at ok
    | cons d ds =>
      simp only [okM, Bool.and_eq_true, Bool.or_eq_true, beq_iff_eq] at ok
      simp only [coll] at e
      split at e
      · cases e
      · rename_i as' hc
        cases o with
        | @cons _ v F _ vs Fl o1 n1 o =>
          obtain ⟨Fl', h1, h2, h3⟩ := ih (j + 1) o ok.2 hc (fun i hi hm => by
            have := L (i + 1) (by simpa using hi) (by simpa using hm)
            rw [show j + 1 + i = j + (i + 1) by omega, this]
            simp) (fun i a ha hi => by
            have := n (i + 1) a (by rw [show j + (i + 1) = j + 1 + i by omega]; exact ha) (by simpa using hi)
            simpa using this)
          have h3' : ∀ G, G ∈ Fl' → ∀ a, a ∈ G → ∃ i, j < i ∧ (m :: ms)[i - j]? = some 0 ∧ a ∈ Fs' i := fun G hG a ha => by
            obtain ⟨i, q1, q2, q3⟩ := h3 G hG a ha
            refine ⟨i, by omega, ?_, q3⟩
            rw [show i - j = (i - (j + 1)) + 1 by omega, List.getElem?_cons_succ]
            exact q2
          split at e
          · rename_i hm
            subst hm
            split at e
            · cases e
            · rename_i d' hd'
              cases e
              obtain ⟨v', hv', o'⟩ := R.has j d' (join_some hd')
              have := L 0 (by simp) rfl
              rw [Nat.add_zero, hv'] at this
              simp at this
              subst this
              refine ⟨Fs' j :: Fl', .cons o' (fun G hG a ha hb => ?_) h1, ⟨fun a ha => ?_, h2⟩, fun G hG a ha => ?_⟩
              · obtain ⟨i, q1, _, q3⟩ := h3' G hG a hb
                have := R.dis j i a ha q3
                omega
              · have := n 0 a (by simpa using ha) (by simp)
                simpa using this
              · rcases List.mem_cons.mp hG with rfl | hG
                · exact ⟨j, Nat.le_refl _, by simp, ha⟩
                · obtain ⟨i, q1, q2, q3⟩ := h3' G hG a ha
                  exact ⟨i, Nat.le_of_lt q1, q2, q3⟩
          · rename_i hm
            cases e
            have hp : pur d = true := ok.1.resolve_left hm
            have e0 := o1.pur hp
            subst e0
            refine ⟨[] :: Fl', .cons (o1.chg c fun _ z => by cases z) (by simp) h1, ⟨by simp, h2⟩, fun G hG a ha => ?_⟩
            rcases List.mem_cons.mp hG with rfl | hG
            · cases ha
            · obtain ⟨i, q1, q2, q3⟩ := h3' G hG a ha
              exact ⟨i, Nat.le_of_lt q1, q2, q3⟩
end
end Sim
namespace Sim
open PySem PySem.Spec L2
theorem getD_of {Fl : List (List Addr)} {i : Nat} {a : Addr} (h : a ∈ Fl.getD i []) : ∃ G, Fl[i]? = some G ∧ a ∈ G := by
  rw [List.getD_eq_getElem?_getD] at h
  cases e : Fl[i]? with
  | none => rw [e] at h; cases h
  | some F => rw [e] at h; exact ⟨F, rfl, h⟩
theorem OwnLs.pure_at {K : PySem.W.Frag} {H : Hp} : ∀ {ms : List Nat} {ds : List D} {vs : List V} {Fl : List (List Addr)}, OwnLs K H ds vs Fl → okM ms ds = true → ∀ i, ms[i]? ≠ some 0 → Fl.getD i [] = []
  | [], [], _, _, o, _, i, _ => by cases o; simp
  | m :: ms, d :: ds, _, _, o, ok, 0, h => by
    cases o with
    | @cons _ _ F _ _ Fl o1 n1 o =>
      simp only [okM, Bool.and_eq_true, Bool.or_eq_true, beq_iff_eq] at ok
      have hp : pur d = true := ok.1.resolve_left fun e => h (by rw [e]; rfl)
      simpa using o1.pur hp
  | m :: ms, d :: ds, _, _, o, ok, i + 1, h => by
    cases o with
    | @cons _ _ F _ _ Fl o1 n1 o =>
      simp only [okM, Bool.and_eq_true] at ok
      have := OwnLs.pure_at o ok.2 i (by simpa using h)
      simpa using this
  | [], _ :: _, _, _, _, ok, _, _ => by simp [okM] at ok
  | _ :: _, [], _, _, _, ok, _, _ => by simp [okM] at ok
section
variable {P : Program} {w : World} {K : PySem.W.Frag} {mg : Str → Option Value} {base : Heap}
theorem fn_sim {x qual : Str} {st : Stmt} {f : Addr} {fd : FuncData} {N ps : List Str} {ms : List Nat} {n k : Nat} {g : S} (F : Fun K x qual st f fd) (Sc : FnScope N ps (defScope st)) (hn : N.length = n) (hm : ms.length = ps.length)
    (hb : ∀ (cdv : Value) (A : Around) (outer : List Env) (s : Shared) (H : Hp) (E : XK), Room k (A.deeper (PyProof.Rows.envOfC qual (defScope st) s.heap.objs.size f cdv)) →
      SimSs (cxOf CX0 P w K mg base N qual (defScope st) f cdv A outer s H E).nox (lkM ms) (defBody st) g) : FnOk P w K mg base CX0 (k + 1) f fd ps (spF K ps.length (mkFn ms n g)) := by
  refine F.ok Sc (fun vs H Q E h => ?_) (fun cdv A outer s H vs Q E hr h => ⟨_, hb cdv A outer s H E hr, ?_⟩)
  · obtain ⟨ds, Fl, r, as, hf, hl, _⟩ := h
    exact hl
  · obtain ⟨ds, Fl, r, as, hf, hl, ol, q⟩ := h
    unfold mkFn at hf
    split at hf
    · rename_i hok
      have hlm := okM_len hok
      split at hf
      · rename_i fl s' hg
        split at hf
        · cases hf
        · rename_i as' hc
          have est : L2.start N vs = vs.map some ++ List.replicate (n - ds.length) none := by
            unfold L2.start
            rw [hn, ← ol.len]
          have R0 := relS_start ol (n - ds.length)
          rw [est]
          refine ⟨_, _, fl, s', R0, hg, ?_⟩
          have fin : ∀ {σ' : St} {H' : Hp} {Fs' : Fp}, RelS K H' s' σ' Fs' → Ev H (fun j => Fl.getD j []) H' Fs' → Lk (lkM ms) (vs.map some ++ List.replicate (n - ds.length) none) σ' →
              ∃ Fl', OwnLs K H' as' vs Fl' ∧ NewL H Fl Fl' ∧ (Chg (fun a => ∃ G, G ∈ Fl ∧ a ∈ G) H H') ∧ ∀ G, G ∈ Fl' → ∀ a, a ∈ G → ∃ i, lkM ms i = true ∧ a ∈ Fs' i := by
            intro σ' H' Fs' R' E' L'
            have c2 : Chg (fun a => ∃ G, G ∈ Fl ∧ a ∈ G) H H' := ⟨fun a ob ho cc => E'.chg.keep a ob ho (cc.imp (fun z ⟨i, hi⟩ => by
              obtain ⟨G, hG, ha⟩ := getD_of hi
              exact z ⟨G, List.mem_of_getElem? hG, ha⟩) id), E'.chg.there⟩
            have c3 : Chg (fun _ => True) H H' := ⟨fun a ob ho cc => E'.chg.keep a ob ho (.inr (cc.resolve_left fun z => z trivial)), E'.chg.there⟩
            obtain ⟨Fl', h1, h2, h3⟩ := coll_own (Fs' := Fs') R' c3 (fun i a h => by
              obtain ⟨xs, z⟩ := R'.mem h
              rw [z]
              simp) 0 ol hok hc (fun i hi h0 => by
                have := L' i (by unfold lkM; rw [h0]; rfl)
                rw [Nat.zero_add, this, List.getElem?_append_left (by rw [List.length_map, ol.len, hlm]; exact hi), List.getElem?_map]) (fun i a ha hi => by
                rw [Nat.zero_add] at ha
                exact E'.new i a ha)
            refine ⟨Fl', h1, h2, c2, fun G hG a ha => ?_⟩
            obtain ⟨i, _, q2, q3⟩ := h3 G hG a ha
            exact ⟨i, by unfold lkM; rw [Nat.sub_zero] at q2; rw [q2]; rfl, q3⟩
          cases fl with
          | nx =>
            cases hf
            intro σ' H' Fs' R' E' L'
            obtain ⟨Fl', h1, h2, c2, _⟩ := fin R' E' L'
            exact q .non H' Fl' [] h1 c2 h2 .non (by simp) (by simp)
          | rt d =>
            cases hf
            intro v σ' H' Fs' F' R' E' L' o nn m
            obtain ⟨Fl', h1, h2, c2, h3⟩ := fin R' E' L'
            refine q v H' Fl' F' h1 c2 h2 o (fun a ha => ?_) fun G hG a ha hb => ?_
            · rcases nn a ha with z | ⟨i, hi, z⟩
              · exact z
              · exfalso
                have z' : a ∈ Fl.getD i [] := z
                rw [ol.pure_at hok i (fun e => by unfold lkM at hi; rw [e] at hi; cases hi)] at z'
                cases z'
            · obtain ⟨i, hi, q3⟩ := h3 G hG a ha
              exact m i a hi q3 hb
          | bk => cases hf
          | ct => cases hf
      · cases hf
      · cases hf
    · cases hf
end
section
variable {X : Cx} {k : Nat} {f : Addr} {fd : FuncData} {ps : List Str} {fn : Fn} {x : Str} {p pos : Pos} {e : Expr} {es : List Expr} {g : AL}
theorem so_call (F : FnOk X.prog X.w X.K X.mg X.base CX0 k f fd ps (spF X.K ps.length fn)) (hr : Room k X.A) (hg : Gl X x) (hm : X.mg x = some (.ref f)) (hk : PySem.W.keepIn X.K (.ref f) = true) (hb : Binds X.K fd ps []) (ha : SimA X (e :: es) g)
    (hn : ∀ ds r as, fn ds = .ok r as → ds.length = ps.length) (hdb : (x == ("__debug__" : Str)) = false := by decide) (he : starEach (e :: es) X.env = (false, eval e X.env) :: starEach es X.env := by rfl) (hpl : (backTo pos (starEach es X.env)).any (·.1) = false := by rfl) :
    SimO X (.Call (.Name x p) (e :: es) [] pos) (oCall fn g) := by
  refine pe_imp (pe_call F hr hg hm hk hb .nil pass0 ha hdb he hpl) fun σ H Q z => ?_
  have z' := tO_call (E := E0) z hn
  exact tA_mono (fun vs H h => by rw [List.append_nil]; exact h) z'
end
end Sim
namespace Sim
open PySem PySem.Spec L2
def intsD : List D → Option (List Int)
  | [] => some []
  | .int i :: ds => (intsD ds).map (i :: ·)
  | _ => none
def bools : List D → Option (List Bool)
  | [] => some []
  | .bool i :: ds => (bools ds).map (i :: ·)
  | _ => none
def seqOf : D → Option (List D)
  | .list ds => some ds
  | .tuple ds => some ds
  | .dict [(.none, .list ds)] => some ds
  | _ => none
def pLen : List D → Option D
  | [.str z] => if z.length ≤ 1000000 then some (.int z.length) else none
  | [d] => match seqOf d with
    | some ds => some (.int ds.length)
    | none => none
  | _ => none
def pAbs : List D → Option D
  | [.int i] => some (.int (if i < 0 then -i else i))
  | _ => none
def pInt : List D → Option D
  | [.int i] => some (.int i)
  | [.bool k] => some (.int (if k then 1 else 0))
  | _ => none
def pMax2 : List D → Option D
  | [.int i, .int j] => some (.int (max i j))
  | _ => none
def pMin2 : List D → Option D
  | [.int i, .int j] => some (.int (min i j))
  | _ => none
def intsOf (d : D) : Option (List Int) := match seqOf d with
  | some ds => intsD ds
  | none => none
def pSum : List D → Option D
  | [d] => (intsOf d).map fun ns => .int ns.sum
  | _ => none
def pTuple : List D → Option D
  | [d] => match seqOf d with
    | some ds => if purs ds = true then some (.tuple ds) else none
    | none => none
  | _ => none
def pList : List D → Option D
  | [d] => match seqOf d with
    | some ds => if purs ds = true then some (.list ds) else none
    | none => none
  | _ => none
def pDivmod : List D → Option D
  | [.int i, .int j] => if 0 < j ∧ j < 1000000 then some (.tuple [.int (i / j), .int (i % j)]) else none
  | _ => none
def pAll : List D → Option D
  | [.list ds] => (bools ds).map fun bs => .bool (bs.all id)
  | _ => none
def pAny : List D → Option D
  | [.list ds] => (bools ds).map fun bs => .bool (bs.any id)
  | _ => none
section
variable {K : PySem.W.Frag} {H : Hp}
theorem own_seq {d : D} {v : V} {F : List Addr} {ds : List D} (o : Own K H d v F) (e : seqOf d = some ds) : ∃ a xs G, v = .ref a ∧ (SqL K H a xs ∨ SqT K H a xs) ∧ OwnA K H ds xs G ∧ (purs ds = true → G = [] ∧ (∀ e2, d = .tuple e2 → SqD K H a xs)) ∧ ((∃ e2, d = .tuple e2) ∨ SqL K H a xs) := by
  unfold seqOf at e
  split at e
  · cases e
    cases o with
    | lst h t n => exact ⟨_, _, _, rfl, .inl (SqL.of h), t, fun p => ⟨t.pur p, fun _ z => by cases z⟩, .inr (SqL.of h)⟩
  · cases e
    cases o with
    | tup h t => exact ⟨_, _, _, rfl, .inr h.sq, t, fun p => ⟨t.pur p, fun _ _ => h⟩, .inl ⟨_, rfl⟩⟩
  · cases e
    cases o with
    | frz h t => exact ⟨_, _, _, rfl, .inl h.sq, t, fun p => ⟨rfl, fun _ z => by cases z⟩, .inr h.sq⟩
  · cases e
end
section
variable {prog : Program} {w : World} {A : Around} {E : Value → Shared → Prop} {s : Shared} {t : Addr} {xs : Array (Int × Tok)}
end
section
variable {X : Cx}
end
end Sim
namespace Sim
open PySem PySem.Spec L2
section
variable {K : PySem.W.Frag}
def rLenA (K : PySem.W.Frag) : List V → Hp → VK → Prop := fun xs H Q => (∃ p ys, xs = [V.ref p] ∧ (SqL K H p ys ∨ SqT K H p ys) ∧ Q (.int ys.length) H) ∨ ∃ z, xs = [V.str z] ∧ z.length ≤ sizeLine ∧ Q (.int z.length) H
theorem CallR.or {X : Cx} {f : Value} {r r' : List V → Hp → VK → Prop} (h : CallR X f r) (h' : CallR X f r') : CallR X f (fun xs H Q => r xs H Q ∨ r' xs H Q) := fun pins s σ H xs us Q I rv q =>
  q.elim (h pins s σ H xs us Q I rv) (h' pins s σ H xs us Q I rv)
theorem cr_len {X : Cx} : CallR X (.builtin "len") (rLenA X.K) := CallR.or call_len_seq call_len_str
theorem pr_len : PrimR K (rLenA K) pLen := by
  intro vs ds d H Q h e q
  unfold pLen at e
  split at e
  · obtain ⟨x, F, rfl, o⟩ := h.one
    cases o
    split at e
    · rename_i hz
      cases e
      exact .inr ⟨_, rfl, Nat.le_trans hz big_le, q _ _ (.sc (.int _))⟩
    · cases e
  · obtain ⟨x, F, rfl, o⟩ := h.one
    split at e
    · rename_i es hs
      cases e
      obtain ⟨a, xs, G, rfl, hq, t, _⟩ := own_seq o hs
      refine .inl ⟨_, _, rfl, hq, ?_⟩
      rw [t.len]
      exact q _ _ (.sc (.int _))
    · cases e
  · cases e
theorem pr_int : PrimR K (fun xs H Q => (∃ i, xs = [V.int i] ∧ Q (.int i) H) ∨ ∃ k, xs = [V.bl k] ∧ Q (.int (if k then 1 else 0)) H) pInt := by
  intro vs ds d H Q h e q
  unfold pInt at e
  split at e
  · obtain ⟨x, F, rfl, o⟩ := h.one
    cases o; cases e
    exact .inl ⟨_, rfl, q _ _ (.sc (.int _))⟩
  · obtain ⟨x, F, rfl, o⟩ := h.one
    cases o; cases e
    exact .inr ⟨_, rfl, q _ _ (.sc (.int _))⟩
  · cases e
theorem pr_max2 : PrimR K (fun xs H Q => ∃ i j : Int, xs = [V.int i, .int j] ∧ Q (.int (if j > i then j else i)) H) pMax2 := by
  intro vs ds d H Q h e q
  unfold pMax2 at e
  split at e
  · rename_i i j
    obtain ⟨x, y, F, G, rfl, o, o2⟩ := h.two
    cases o; cases o2; cases e
    refine ⟨_, _, rfl, ?_⟩
    have z : (if j > i then j else i) = max i j := by split <;> omega
    rw [z]
    exact q _ _ (.sc (.int _))
  · cases e
theorem pr_min2 : PrimR K (fun xs H Q => ∃ i j : Int, xs = [V.int i, .int j] ∧ Q (.int (if j < i then j else i)) H) pMin2 := by
  intro vs ds d H Q h e q
  unfold pMin2 at e
  split at e
  · rename_i i j
    obtain ⟨x, y, F, G, rfl, o, o2⟩ := h.two
    cases o; cases o2; cases e
    refine ⟨_, _, rfl, ?_⟩
    have z : (if j < i then j else i) = min i j := by split <;> omega
    rw [z]
    exact q _ _ (.sc (.int _))
  · cases e
theorem pr_tuple : PrimR K (fun xs H Q => ∃ p ys, xs = [V.ref p] ∧ ((SqL K H p ys ∧ rNewT ys H Q) ∨ (SqT K H p ys ∧ Q (.ref p) H))) pTuple := by
  intro vs ds d H Q h e q
  unfold pTuple at e
  split at e
  · obtain ⟨x, F, rfl, o⟩ := h.one
    split at e
    · rename_i es hs
      split at e
      · rename_i hp
        cases e
        obtain ⟨a, xs, G, rfl, hq, t, h1, h2⟩ := own_seq o hs
        obtain ⟨rfl, h3⟩ := h1 hp
        refine ⟨a, xs, rfl, ?_⟩
        rcases h2 with ⟨e2, h2⟩ | h2
        · exact .inr ⟨(h3 e2 h2).sq, q _ _ (.sc (.tup (h3 e2 h2) t))⟩
        · exact .inl ⟨h2, fun p ob hp hn => q _ _ (.tup t hp hn)⟩
      · cases e
    · cases e
  · cases e
theorem pr_list : PrimR K (fun xs H Q => ∃ p ys, xs = [V.ref p] ∧ (SqL K H p ys ∨ SqT K H p ys) ∧ ∀ l, H l = none → Q (.ref l) (upd H l (.lst ys))) pList := by
  intro vs ds d H Q h e q
  unfold pList at e
  split at e
  · obtain ⟨x, F, rfl, o⟩ := h.one
    split at e
    · rename_i es hs
      split at e
      · rename_i hp
        cases e
        obtain ⟨a, xs, G, rfl, hq, t, h1, h2⟩ := own_seq o hs
        obtain ⟨rfl, h1⟩ := h1 hp
        exact ⟨_, _, rfl, hq, fun l hl => q _ _ (.lst t hl)⟩
      · cases e
    · cases e
  · cases e
end
theorem bt_len : bootBuiltins "len" = some (.builtin "len") := by decide +kernel
theorem bt_max : bootBuiltins "max" = some (.builtin "max") := by decide +kernel
theorem bt_min : bootBuiltins "min" = some (.builtin "min") := by decide +kernel
theorem bt_int : bootBuiltins "int" = some (.type "int") := by decide +kernel
theorem bt_list : bootBuiltins "list" = some (.type "list") := by decide +kernel
theorem bt_tuple : bootBuiltins "tuple" = some (.type "tuple") := by decide +kernel
inductive Kd where
  | int | bool | str | tup | lst
def frdB : List (D × D) → Bool
  | [(.none, .dict _)] => true
  | _ => false
def isK : Kd → D → Bool
  | .int, .int _ => true
  | .int, .bool _ => true
  | .bool, .bool _ => true
  | .str, .str _ => true
  | .tup, .tuple _ => true
  | .lst, .list _ => true
  | .lst, .dict kvs => !frdB kvs
  | _, _ => false
def okD : D → Bool
  | .dict kvs => frzT kvs
  | _ => true
def pIsi (k : Kd) : List D → Option D
  | [d] => if okD d = true then some (.bool (isK k d)) else none
  | _ => none
end Sim
namespace Sim
open PySem PySem.Spec L2
/-- x.m(args): the list that x's slot holds, as it becomes; what is given -/
def oMt (f : List D → List D → Option (List D × D)) (i : Nat) (g : AL) : O := fun s => (oV i s).bind fun _ s => match (s[i]?).join with
  | some (.list _) => (g s).bind fun rs s1 => (match (s1[i]?).join, owns rs s1 with
    | some (.list ds), some as => (match f ds as with
      | some (ds', d) => if pur d = true then .ok (.val d) (s1.set i (some (.list ds'))) else .bad
      | none => .bad)
    | _, _ => .bad)
  | _ => .bad
/-- what a rule of a method asks: the list becomes .., the answer -/
def MtD (K : PySem.W.Frag) (r : V → List V → Hp → VK → Prop) (f : List D → List D → Option (List D × D)) : Prop :=
  ∀ (l : Addr) (vs : List V) (F : List Addr) (ds as : List D) (ws : List V) (G : List Addr) (ds' : List D) (d : D) (H : Hp) (Q : VK),
    H l = some (.lst vs) → OwnA K H ds vs F → l ∉ F → OwnA K H as ws G → (∀ a, a ∈ G → a ∉ l :: F) → f ds as = some (ds', d) → pur d = true →
    (∀ vs' F' v, OwnA K H ds' vs' F' → (∀ a, a ∈ F' → a ∈ F ∨ a ∈ G) → Own K H d v [] → Q v (upd H l (.lst vs'))) → r (.ref l) ws H Q
theorem Ev.step {H H1 H' : Hp} {Fs Fs1 Fs' : Fp} (a : Ev H Fs H1 Fs1) (c : Chg (InF Fs1) H1 H') (n : ∀ i x, x ∈ Fs' i → x ∈ Fs i ∨ H x = none) : Ev H Fs H' Fs' := by
  refine ⟨⟨fun x o e cc => c.keep x o (a.chg.keep x o e cc) (cc.imp (fun n z => ?_) id), fun x e => a.chg.there x (c.there x e)⟩, n⟩
  obtain ⟨i, hi⟩ := z
  rcases a.new i x hi with q | q
  · exact n ⟨i, q⟩
  · rw [e] at q; cases q
section
variable {X : Cx} {K : PySem.W.Frag} {σ : St} {H : Hp} {Q : VK}
theorem tO_mt {f : List D → List D → Option (List D × D)} {r : V → List V → Hp → VK → Prop} {i : Nat} {g : AL} (hr : MtD K r f) (z : tO K (oMt f i g) σ H Q) : tBM K "list" r (tVar i) (tA K g) σ H Q := by
  obtain ⟨s, Fs, rf, s', R, e, q⟩ := z
  obtain ⟨r0, s0, e0, e⟩ := bind_inv e
  unfold oV at e0
  split at e0
  · rename_i d0 hd0
    cases e0
    split at e
    · rename_i ds0 hds0
      rw [hd0] at hds0
      cases hds0
      obtain ⟨v0, hv0, o0⟩ := R.has i _ (join_some hd0)
      obtain ⟨l, vs0, F0, rfl, hF0, hl0, t0, n0⟩ := own_list o0
      refine ⟨.ref l, hv0, .inl ⟨rfl, _, SqL.of hl0⟩, ?_⟩
      obtain ⟨rs, s1, e1, e⟩ := bind_inv e
      refine ⟨s, Fs, rs, s1, R, e1, fun ws H1 Fs1 Gs R1 E1 k1 n1 => ?_⟩
      split at e
      · rename_i ds as hds has
        split at e
        · rename_i ds' d hf
          split at e
          · rename_i hp
            cases e
            obtain ⟨v1, hv1, o1⟩ := R1.has i _ (join_some hds)
            rw [hv0] at hv1
            cases hv1
            obtain ⟨l', vs, F, e2, hF, hl, t, n⟩ := own_list o1
            cases e2
            obtain ⟨oa, dj⟩ := k1.own R1 has
            have li : ∀ a, a ∈ Gs.flatten → a ∉ l :: F := fun a ha hb => dj i a (by rw [hF]; exact hb) ha
            refine hr l vs F ds as ws Gs.flatten ds' d H1 Q hl t n oa li hf hp fun vs' F' v o' sub ov => ?_
            have n' : l ∉ F' := fun h => by
              rcases sub l h with z | z
              · exact n z
              · exact li l z (List.mem_cons_self ..)
            obtain ⟨Fs2, R2, c2, w2⟩ := R1.wr (Fd := Gs.flatten) (join_some hds) hv0 hl hF o' n' sub (fun j a ha => dj j a ha)
            have ch : Chg (fun a => a = l) H1 (upd H1 l (.lst vs')) := ⟨fun a ob e c => by
              by_cases ha : a = l
              · subst ha
                rcases c with c | c
                · exact absurd rfl c
                · rw [hl] at e
                  cases e
                  cases c
              · rw [upd_ne ha]; exact e, fun a e => by
              by_cases ha : a = l
              · subst ha; rw [upd_same] at e; cases e
              · rw [upd_ne ha] at e; exact e⟩
            refine q v _ Fs2 [] R2 (E1.step c2 fun j a ha => ?_) (.val ⟨ov.chg ch (fun _ z => nomatch z), fun _ _ _ z => nomatch z⟩) (fun _ z => nomatch z)
            rcases w2 j a ha with z | z
            · exact E1.new j a z
            · obtain ⟨G, hG, hb⟩ := List.mem_flatten.mp z
              exact .inr (n1 G hG a hb)
          · cases e
        · cases e
      · cases e
    · cases e
  · cases e0
theorem so_mt {f : List D → List D → Option (List D × D)} {r : V → List V → Hp → VK → Prop} {i : Nat} {g : AL} {x name : Str} {id : String} {p apos cpos : Pos} {e : Expr} {es : List Expr} (hr : MtD X.K r f) (slot : Slot "list" name id) (hty : typeOf (.builtin id) = pure (.type "method_descriptor")) (hm : MtR X id r)
    (ho : PE X (.Name x p) (tVar i)) (ha : SimA X (e :: es) g)
    (hbase : attributeBase (.Name x p) name X.env (eval (.Name x p) X.env) = eval (.Name x p) X.env := by rfl)
    (hfew : ((backTo cpos (starEach (e :: es) X.env)).all (fun x => !x.1) && (backToKw cpos (keywordEach [] X.env)).all (fun x => x.1.isSome)
      && decide ((e :: es).length + ([] : List Keyword).length + (if ([] : List Keyword).isEmpty then 0 else 1) < 30)) = true := by rfl)
    (hline : (apos.endLine == cpos.line) = true := by rfl) (hs : starEach (e :: es) X.env = (false, eval e X.env) :: starEach es X.env := by rfl) (hplain : (backTo cpos (starEach es X.env)).any (·.1) = false := by rfl) :
    SimO X (.Call (.Attribute (.Name x p) name apos) (e :: es) [] cpos) (oMt f i g) :=
  pe_imp (pe_bm PySem.F.plainAttrs_list slot hty hm ho ha hbase hfew hline hs hplain) fun _ _ _ h => tO_mt hr h
end
def mApp : List D → List D → Option (List D × D)
  | ds, [d] => if ds.length < 1000000 then some (ds ++ [d], .none) else none
  | _, _ => none
def mIns : List D → List D → Option (List D × D)
  | ds, [.int i, d] => if ds.length < 1000000 ∧ 0 ≤ i ∧ i < 1000000 ∧ pur d = true ∧ purs ds = true then some (ds.take i.toNat ++ [d] ++ ds.drop i.toNat, .none) else none
  | _, _ => none
def mExt : List D → List D → Option (List D × D)
  | ds, [.list es] => if purs ds = true ∧ purs es = true ∧ ds.length + es.length ≤ 1000000 then some (ds ++ es, .none) else none
  | _, _ => none
section
variable {K : PySem.W.Frag} {H : Hp}
theorem owna1 {d : D} {vs : List V} {F : List Addr} (h : OwnA K H [d] vs F) : ∃ v, vs = [v] ∧ Own K H d v F := by
  cases h with
  | @cons v _ _ _ F G o t n =>
    cases t
    rw [List.append_nil]
    exact ⟨v, rfl, o⟩
theorem owna2 {d d2 : D} {vs : List V} {F : List Addr} (h : OwnA K H [d, d2] vs F) : ∃ v v2 F1 F2, vs = [v, v2] ∧ Own K H d v F1 ∧ Own K H d2 v2 F2 ∧ F = F1 ++ F2 := by
  cases h with
  | @cons v _ _ _ F G o t n =>
    obtain ⟨v2, rfl, o2⟩ := owna1 t
    exact ⟨v, v2, _, _, rfl, o, o2, rfl⟩
theorem md_app : MtD K rAppend mApp := by
  intro l vs F ds as ws G ds' d H Q hl t n oa li hf hp q
  unfold mApp at hf
  split at hf
  · rename_i ds y
    split at hf
    · rename_i hz
      cases hf
      obtain ⟨v, rfl, o⟩ := owna1 oa
      obtain ⟨F', t', sub⟩ := OwnA.snoc o t fun a ha hb => li a hb (List.mem_cons_of_mem _ ha)
      refine ⟨l, _, v, rfl, rfl, hl, ?_, q _ F' .non t' sub .non⟩
      rw [t.len]
      exact Nat.lt_of_lt_of_le hz big_le
    · cases hf
  · cases hf
theorem md_ins : MtD K (fun x vs H Q => ∃ (l : Addr) (xs : List V) (i : Int) (y : V), x = .ref l ∧ vs = [.int i, y] ∧ H l = some (.lst xs) ∧ xs.length < sizeLine ∧ 0 ≤ i ∧ i < 2 ^ 63 ∧
    Q .non (upd H l (.lst (xs.take i.toNat ++ [y] ++ xs.drop i.toNat)))) mIns := by
  intro l vs F ds as ws G ds' d H Q hl t n oa li hf hp q
  unfold mIns at hf
  split at hf
  · rename_i ds i y
    split at hf
    · rename_i hz
      cases hf
      obtain ⟨v, v2, F1, F2, rfl, o, o2, _⟩ := owna2 oa
      cases o
      have e0 := o2.pur hz.2.2.2.1
      subst e0
      have e1 := t.pur hz.2.2.2.2
      subst e1
      refine ⟨l, _, i, v2, rfl, rfl, hl, ?_, hz.2.1, by omega, q _ [] .non (((t.take _).app (OwnA.cons0 o2 .nil)).app (t.drop _)) (fun _ z => nomatch z) .non⟩
      rw [t.len]
      exact Nat.lt_of_lt_of_le hz.1 big_le
    · cases hf
  · cases hf
theorem md_ext : MtD K rExtend mExt := by
  intro l vs F ds as ws G ds' d H Q hl t n oa li hf hp q
  unfold mExt at hf
  split at hf
  · rename_i ds es
    split at hf
    · rename_i hz
      cases hf
      obtain ⟨v, rfl, o⟩ := owna1 oa
      obtain ⟨b, zs, F2, rfl, rfl, hb, t2, n2⟩ := own_list o
      have e1 := t.pur hz.1
      subst e1
      have e2 := t2.pur hz.2.1
      subst e2
      refine ⟨l, b, vs, zs, rfl, rfl, hl, hb, ?_, q _ [] .non (t.app t2) (fun _ z => nomatch z) .non⟩
      rw [t.len, t2.len]
      exact Nat.le_trans hz.2.2 big_le
    · cases hf
  · cases hf
end
end Sim
namespace Sim
open PySem PySem.Spec L2
def truD : D → Option Bool
  | .none => some false
  | .bool b => some b
  | .int i => some (i != 0)
  | .str z => if z.length ≤ 1000000 then some ((z.length : Int) != 0) else none
  | .list ds => some (!ds.isEmpty)
  | .tuple ds => some (!ds.isEmpty)
  | .dict [(.none, .list ds)] => some (!ds.isEmpty)
  | .dict _ => none
def tstA (g : O) : T := fun s => (g s).bind fun r s1 => match rd r s1 with
  | some d => (match truD d with
    | some b => .ok b s1
    | none => .bad)
  | none => .bad
section
variable {X : Cx} {K : PySem.W.Frag} {H : Hp} {σ : St} {Q : VK} {a : Expr} {ga : O}
end
section
variable {X : Cx} {lk : Nat → Bool}
end
/-- more slots held -/
def lkp (is : List Nat) (lk : Nat → Bool) : Nat → Bool := fun j => is.contains j || lk j
theorem lkp_sub {is : List Nat} {lk : Nat → Bool} : ∀ i, lk i = true → lkp is lk i = true := fun i h => by unfold lkp; rw [h, Bool.or_true]
theorem units65 {k : Nat} {A : Around} (r : Room k A) : A.units + 65 < cLine := by have := r.un; omega
theorem spF_law {f : Fn} (hf : ∀ ns : List Int, ns.length ≤ 63 → ∃ as, f [.dict [(.none, .list (ns.map .int))]] = .ok (.bool true) as) (K : PySem.W.Frag) (H : Hp) (a : Addr) (ns : List Int) (h1 : ns.length ≤ 63) (h2 : Only H) (h3 : SqL K H a (ns.map V.int)) :
    spF K 1 f [.ref a] H (fun v _ => v = .bl true) fun _ _ _ => False := by
  obtain ⟨as, e⟩ := hf ns h1
  have hq : SqF K H a (ns.map V.int) := by
    rcases h3 with (h | ⟨o, h⟩) | h
    · rcases h2 a with z | ⟨o, xs, z⟩ <;> rw [h] at z <;> cases z
    · exact .inl ⟨o, h⟩
    · exact .inr h
  have ho : ∀ ns : List Int, OwnA K H (ns.map .int) (ns.map V.int) [] := fun ns => by
    induction ns with
    | nil => exact .nil
    | cons n ns ih => exact OwnA.cons0 (.int n) ih
  refine ⟨_, [[]], _, as, e, rfl, .cons (.frz hq (ho ns)) (by simp) .nil, fun v H' Fl' F h c n o _ _ => ?_⟩
  cases o
  rfl
end Sim
namespace Sim
open PySem PySem.Spec L2
@[simp] theorem ev_ok {α β : Type} (a : α) (s : Sg) (k : α → Sg → Res β) : (Res.ok a s).bind k = k a s := rfl
@[simp] theorem ev_exc {α β : Type} (c : Str) (v : D) (s : Sg) (k : α → Sg → Res β) : (Res.exc c v s).bind k = .exc c v s := rfl
@[simp] theorem ev_bad {α β : Type} (k : α → Sg → Res β) : (Res.bad : Res α).bind k = .bad := rfl
@[simp] theorem rd_val (d : D) (s : Sg) : rd (.val d) s = some d := rfl
@[simp] theorem rd_slot (i : Nat) (s : Sg) : rd (.slot i) s = (s[i]?).join := rfl
def rdsK (a : Option D) (b : Option (List D)) : Option (List D) := match a with
  | none => none
  | some d => match b with
    | none => none
    | some ds => some (d :: ds)
@[simp] theorem rds_nil (s : Sg) : rds [] s = some [] := rfl
@[simp] theorem rds_cons (r : Rf) (rs : List Rf) (s : Sg) : rds (r :: rs) s = rdsK (rd r s) (rds rs s) := rfl
@[simp] theorem rdsK_some (d : D) (ds : List D) : rdsK (some d) (some ds) = some (d :: ds) := rfl
def ownK : Option D → Option D
  | none => none
  | some d => if pur d = true then some d else none
@[simp] theorem own_val (d : D) (s : Sg) : own (.val d) s = some d := rfl
@[simp] theorem own_slot (i : Nat) (s : Sg) : own (.slot i) s = ownK (s[i]?).join := rfl
@[simp] theorem ownK_some (d : D) : ownK (some d) = if pur d = true then some d else none := rfl
@[simp] theorem owns_nil (s : Sg) : owns [] s = some [] := rfl
@[simp] theorem owns_cons (r : Rf) (rs : List Rf) (s : Sg) : owns (r :: rs) s = rdsK (own r s) (owns rs s) := rfl
@[simp] theorem pur_non : pur .none = true := by rfl
@[simp] theorem pur_bool (b : Bool) : pur (.bool b) = true := by rfl
@[simp] theorem pur_int (b : Int) : pur (.int b) = true := by rfl
@[simp] theorem pur_str (b : Str) : pur (.str b) = true := by rfl
@[simp] theorem pur_tuple (b : List D) : pur (.tuple b) = purs b := by simp [pur]
@[simp] theorem pur_list (b : List D) : pur (.list b) = false := by simp [pur]
@[simp] theorem pur_frz (b : List D) : pur (.dict [(.none, .list b)]) = true := by simp [pur, frzT]
@[simp] theorem purs_nil : purs [] = true := by rfl
@[simp] theorem purs_cons (d : D) (b : List D) : purs (d :: b) = (pur d && purs b) := by simp [purs]
@[simp] theorem purs_ints (l : List Int) : purs (l.map .int) = true := by induction l <;> simp_all
@[simp] theorem purs_map {α : Type} (f : α → Int) (l : List α) : purs (l.map fun a => .int (f a)) = true := by induction l <;> simp_all
@[simp] theorem purs_mapB {α : Type} (f : α → Bool) (l : List α) : purs (l.map fun a => .bool (f a)) = true := by induction l <;> simp_all
@[simp] theorem purs_append (a b : List D) : purs (a ++ b) = (purs a && purs b) := purs_app
def oVK (i : Nat) (s : Sg) : Option D → Res Rf
  | some _ => .ok (.slot i) s
  | none => .bad
@[simp] theorem ev_oV (i : Nat) (s : Sg) : oV i s = oVK i s (s[i]?).join := by
  unfold oV oVK; rfl
@[simp] theorem ev_oVK (i : Nat) (s : Sg) (d : D) : oVK i s (some d) = .ok (.slot i) s := rfl
@[simp] theorem ev_oC (d : D) (s : Sg) : oC d s = .ok (.val d) s := rfl
@[simp] theorem ev_aNil (s : Sg) : aNil s = .ok [] s := rfl
def consK2 (r : Rf) (rs : List Rf) (s : Sg) : Res (List Rf) := .ok (r :: rs) s
def consK (h : AL) (r : Rf) (s : Sg) : Res (List Rf) := (h s).bind (consK2 r)
@[simp] theorem ev_aCons (g : O) (h : AL) (s : Sg) : aCons g h s = (g s).bind (consK h) := rfl
@[simp] theorem ev_consK (h : AL) (r : Rf) (s : Sg) : consK h r s = (h s).bind (consK2 r) := rfl
@[simp] theorem ev_consK2 (r : Rf) (rs : List Rf) (s : Sg) : consK2 r rs s = .ok (r :: rs) s := rfl
def primK3 (s : Sg) : Option D → Res Rf
  | none => .bad
  | some d => .ok (.val d) s
def primK2 (f : List D → Option D) (s : Sg) : Option (List D) → Res Rf
  | none => .bad
  | some ds => primK3 s (f ds)
def primK (f : List D → Option D) (rs : List Rf) (s : Sg) : Res Rf := primK2 f s (rds rs s)
@[simp] theorem ev_prim (f : List D → Option D) (g : AL) (s : Sg) : oPrim f g s = (g s).bind (primK f) := by
  unfold oPrim; refine congrArg (Res.bind _) ?_; funext rs s1; unfold primK primK2; cases rds rs s1 <;> rfl
@[simp] theorem ev_primK (f : List D → Option D) (rs : List Rf) (s : Sg) : primK f rs s = primK2 f s (rds rs s) := rfl
@[simp] theorem ev_primK2 (f : List D → Option D) (ds : List D) (s : Sg) : primK2 f s (some ds) = primK3 s (f ds) := rfl
@[simp] theorem ev_primK3 (d : D) (s : Sg) : primK3 s (some d) = .ok (.val d) s := rfl
@[simp] theorem ev_o1 (f : List D → Option D) (a : O) (s : Sg) : o1 f a s = ((a s).bind (consK aNil)).bind (primK f) := by unfold o1; rw [ev_prim]; rfl
@[simp] theorem ev_o2 (f : List D → Option D) (a b : O) (s : Sg) : o2 f a b s = ((a s).bind (consK (aCons b aNil))).bind (primK f) := by unfold o2; rw [ev_prim]; rfl
def tstK2 (s : Sg) : Option D → Res Bool
  | some (.bool b) => .ok b s
  | _ => .bad
def tstK (r : Rf) (s : Sg) : Res Bool := tstK2 s (rd r s)
@[simp] theorem ev_tst (g : O) (s : Sg) : tst g s = (g s).bind tstK := rfl
@[simp] theorem ev_tstK (r : Rf) (s : Sg) : tstK r s = tstK2 s (rd r s) := rfl
@[simp] theorem ev_tstK2 (s : Sg) (b : Bool) : tstK2 s (some (.bool b)) = .ok b s := rfl
def tstAK3 (s : Sg) : Option Bool → Res Bool
  | some b => .ok b s
  | none => .bad
def tstAK2 (s : Sg) : Option D → Res Bool
  | some d => tstAK3 s (truD d)
  | none => .bad
def tstAK (r : Rf) (s : Sg) : Res Bool := tstAK2 s (rd r s)
@[simp] theorem ev_tstA (g : O) (s : Sg) : tstA g s = (g s).bind tstAK := by
  unfold tstA; refine congrArg (Res.bind _) ?_; funext r s1; unfold tstAK tstAK2; cases rd r s1 with
  | none => rfl
  | some d => cases h : truD d <;> simp [h, tstAK3]
@[simp] theorem ev_tstAK (r : Rf) (s : Sg) : tstAK r s = tstAK2 s (rd r s) := rfl
@[simp] theorem ev_tstAK2 (s : Sg) (d : D) : tstAK2 s (some d) = tstAK3 s (truD d) := rfl
@[simp] theorem ev_tstAK3 (s : Sg) (b : Bool) : tstAK3 s (some b) = .ok b s := rfl
@[simp] theorem tru_bool (b : Bool) : truD (.bool b) = some b := rfl
@[simp] theorem tru_int (b : Int) : truD (.int b) = some (b != 0) := rfl
@[simp] theorem tru_list (b : List D) : truD (.list b) = some (!b.isEmpty) := rfl
@[simp] theorem tru_tuple (b : List D) : truD (.tuple b) = some (!b.isEmpty) := rfl
def andK2 (h : O) (s : Sg) : Option D → Res Rf
  | some (.bool true) => h s
  | some (.bool false) => .ok (.val (.bool false)) s
  | _ => .bad
def andK (h : O) (r : Rf) (s : Sg) : Res Rf := andK2 h s (rd r s)
@[simp] theorem ev_oAnd (g h : O) (s : Sg) : oAnd g h s = (g s).bind (andK h) := rfl
@[simp] theorem ev_andK (h : O) (r : Rf) (s : Sg) : andK h r s = andK2 h s (rd r s) := rfl
@[simp] theorem ev_andK2 (h : O) (s : Sg) (b : Bool) : andK2 h s (some (.bool b)) = if b = true then h s else .ok (.val (.bool false)) s := by cases b <;> rfl
def orK2 (h : O) (s : Sg) : Option D → Res Rf
  | some (.bool true) => .ok (.val (.bool true)) s
  | some (.bool false) => h s
  | _ => .bad
def orK (h : O) (r : Rf) (s : Sg) : Res Rf := orK2 h s (rd r s)
@[simp] theorem ev_oOr (g h : O) (s : Sg) : oOr g h s = (g s).bind (orK h) := rfl
@[simp] theorem ev_orK (h : O) (r : Rf) (s : Sg) : orK h r s = orK2 h s (rd r s) := rfl
@[simp] theorem ev_orK2 (h : O) (s : Sg) (b : Bool) : orK2 h s (some (.bool b)) = if b = true then .ok (.val (.bool true)) s else h s := by cases b <;> rfl
def notK2 (s : Sg) : Option D → Res Rf
  | some (.bool b) => .ok (.val (.bool (!b))) s
  | _ => .bad
def notK (r : Rf) (s : Sg) : Res Rf := notK2 s (rd r s)
@[simp] theorem ev_oNot (g : O) (s : Sg) : oNot g s = (g s).bind notK := rfl
@[simp] theorem ev_notK (r : Rf) (s : Sg) : notK r s = notK2 s (rd r s) := rfl
@[simp] theorem ev_notK2 (s : Sg) (b : Bool) : notK2 s (some (.bool b)) = .ok (.val (.bool (!b))) s := rfl
def tAndK (u : T) (b : Bool) (s : Sg) : Res Bool := if b = true then u s else .ok false s
@[simp] theorem ev_tAnd (t u : T) (s : Sg) : tAnd t u s = (t s).bind (tAndK u) := rfl
@[simp] theorem ev_tAndK (u : T) (b : Bool) (s : Sg) : tAndK u b s = if b = true then u s else .ok false s := rfl
def tOrK (u : T) (b : Bool) (s : Sg) : Res Bool := if b = true then .ok true s else u s
@[simp] theorem ev_tOr (t u : T) (s : Sg) : tOr t u s = (t s).bind (tOrK u) := rfl
@[simp] theorem ev_tOrK (u : T) (b : Bool) (s : Sg) : tOrK u b s = if b = true then .ok true s else u s := rfl
def tNotK (b : Bool) (s : Sg) : Res Bool := .ok (!b) s
@[simp] theorem ev_tNot (t : T) (s : Sg) : tNot t s = (t s).bind tNotK := rfl
@[simp] theorem ev_tNotK (b : Bool) (s : Sg) : tNotK b s = .ok (!b) s := rfl
def oIfK (a b : O) (k : Bool) (s : Sg) : Res Rf := if k = true then a s else b s
@[simp] theorem ev_oIf (c : T) (a b : O) (s : Sg) : oIf c a b s = (c s).bind (oIfK a b) := rfl
@[simp] theorem ev_oIfK (a b : O) (k : Bool) (s : Sg) : oIfK a b k s = if k = true then a s else b s := rfl
def chK4 (s : Sg) : Option D → Res Rf
  | none => .bad
  | some d => .ok (.val d) s
def chK3 (f' : List D → Option D) (s : Sg) : Option (List D) → Res Rf
  | none => .bad
  | some es => chK4 s (f' es)
def chK2c (f' : List D → Option D) (rb rc : Rf) (s : Sg) : Res Rf := chK3 f' s (rds [rb, rc] s)
def chK2b (f' : List D → Option D) (c : O) (rb : Rf) (s : Sg) : Option D → Res Rf
  | some (.bool true) => (c s).bind (chK2c f' rb)
  | some (.bool false) => .ok (.val (.bool false)) s
  | _ => .bad
def chK2a (f f' : List D → Option D) (c : O) (rb : Rf) (s : Sg) : Option (List D) → Res Rf
  | none => .bad
  | some ds => chK2b f' c rb s (f ds)
def chK1 (f f' : List D → Option D) (c : O) (ra rb : Rf) (s : Sg) : Res Rf := chK2a f f' c rb s (rds [ra, rb] s)
def chK0 (f f' : List D → Option D) (b c : O) (ra : Rf) (s : Sg) : Res Rf := (b s).bind (chK1 f f' c ra)
@[simp] theorem ev_chain (f f' : List D → Option D) (a b c : O) (s : Sg) : oChain f f' a b c s = (a s).bind (chK0 f f' b c) := by
  unfold oChain; refine congrArg (Res.bind _) ?_; funext ra s1; unfold chK0; refine congrArg (Res.bind _) ?_; funext rb s2; unfold chK1 chK2a
  cases rds [ra, rb] s2 with
  | none => rfl
  | some ds =>
    show _ = chK2b f' c rb s2 (f ds)
    unfold chK2b
    cases hf : f ds with
    | none => simp [hf]
    | some d => cases d with
      | bool b => cases b with
        | false => simp [hf]
        | true =>
          simp only [hf]
          refine congrArg (Res.bind _) ?_; funext rc s3; unfold chK2c chK3
          cases rds [rb, rc] s3 with
          | none => rfl
          | some es => cases hg : f' es <;> simp [hg, chK4]
      | _ => simp [hf]
@[simp] theorem ev_chK0 (f f' : List D → Option D) (b c : O) (ra : Rf) (s : Sg) : chK0 f f' b c ra s = (b s).bind (chK1 f f' c ra) := rfl
@[simp] theorem ev_chK1 (f f' : List D → Option D) (c : O) (ra rb : Rf) (s : Sg) : chK1 f f' c ra rb s = chK2a f f' c rb s (rds [ra, rb] s) := rfl
@[simp] theorem ev_chK2a (f f' : List D → Option D) (c : O) (rb : Rf) (s : Sg) (ds : List D) : chK2a f f' c rb s (some ds) = chK2b f' c rb s (f ds) := rfl
@[simp] theorem ev_chK2b (f' : List D → Option D) (c : O) (rb : Rf) (s : Sg) (b : Bool) : chK2b f' c rb s (some (.bool b)) = if b = true then (c s).bind (chK2c f' rb) else .ok (.val (.bool false)) s := by cases b <;> rfl
@[simp] theorem ev_chK2c (f' : List D → Option D) (rb rc : Rf) (s : Sg) : chK2c f' rb rc s = chK3 f' s (rds [rb, rc] s) := rfl
@[simp] theorem ev_chK3 (f' : List D → Option D) (s : Sg) (ds : List D) : chK3 f' s (some ds) = chK4 s (f' ds) := rfl
@[simp] theorem ev_chK4 (s : Sg) (d : D) : chK4 s (some d) = .ok (.val d) s := rfl
def tupK2 (s : Sg) : Option (List D) → Res Rf
  | none => .bad
  | some ds => if ds.length ≤ 1000000 then .ok (.val (.tuple ds)) s else .bad
def tupK (rs : List Rf) (s : Sg) : Res Rf := tupK2 s (owns rs s)
@[simp] theorem ev_oTup (g : AL) (s : Sg) : oTup g s = (g s).bind tupK := rfl
@[simp] theorem ev_tupK (rs : List Rf) (s : Sg) : tupK rs s = tupK2 s (owns rs s) := rfl
@[simp] theorem ev_tupK2 (s : Sg) (ds : List D) : tupK2 s (some ds) = if ds.length ≤ 1000000 then .ok (.val (.tuple ds)) s else .bad := rfl
def lstK2 (s : Sg) : Option (List D) → Res Rf
  | none => .bad
  | some ds => if ds.length ≤ 1000000 then .ok (.val (.list ds)) s else .bad
def lstK (rs : List Rf) (s : Sg) : Res Rf := lstK2 s (owns rs s)
@[simp] theorem ev_oLst (g : AL) (s : Sg) : oLst g s = (g s).bind lstK := rfl
@[simp] theorem ev_lstK (rs : List Rf) (s : Sg) : lstK rs s = lstK2 s (owns rs s) := rfl
@[simp] theorem ev_lstK2 (s : Sg) (ds : List D) : lstK2 s (some ds) = if ds.length ≤ 1000000 then .ok (.val (.list ds)) s else .bad := rfl
def prtK2 (s : Sg) : Option D → Res (Option Int)
  | some (.int i) => .ok (some i) s
  | _ => .bad
def prtK (r : Rf) (s : Sg) : Res (Option Int) := prtK2 s (rd r s)
@[simp] theorem ev_prt_none (s : Sg) : prt none s = .ok none s := rfl
@[simp] theorem ev_prt_some (g : O) (s : Sg) : prt (some g) s = (g s).bind prtK := rfl
@[simp] theorem ev_prtK (r : Rf) (s : Sg) : prtK r s = prtK2 s (rd r s) := rfl
@[simp] theorem ev_prtK2 (s : Sg) (i : Int) : prtK2 s (some (.int i)) = .ok (some i) s := rfl
def slK5 (s : Sg) : Option D → Res Rf
  | none => .bad
  | some d => .ok (.val d) s
def slK4 (l u : Option Int) (s : Sg) : Option D → Res Rf
  | none => .bad
  | some d => slK5 s (slD d l u)
def slK3 (r : Rf) (l u : Option Int) (s : Sg) : Res Rf := slK4 l u s (rd r s)
def slK2 (hi : Option O) (r : Rf) (l : Option Int) (s : Sg) : Res Rf := (prt hi s).bind (slK3 r l)
def slK1 (lo hi : Option O) (r : Rf) (s : Sg) : Res Rf := (prt lo s).bind (slK2 hi r)
@[simp] theorem ev_oSl (g : O) (lo hi : Option O) (s : Sg) : oSl g lo hi s = (g s).bind (slK1 lo hi) := by
  unfold oSl; refine congrArg (Res.bind _) ?_; funext r s1; unfold slK1; refine congrArg (Res.bind _) ?_; funext l s2; unfold slK2; refine congrArg (Res.bind _) ?_; funext u s3; unfold slK3 slK4
  cases rd r s3 with
  | none => rfl
  | some d => cases h : slD d l u <;> simp [h, slK5]
@[simp] theorem ev_slK1 (lo hi : Option O) (r : Rf) (s : Sg) : slK1 lo hi r s = (prt lo s).bind (slK2 hi r) := rfl
@[simp] theorem ev_slK2 (hi : Option O) (r : Rf) (l : Option Int) (s : Sg) : slK2 hi r l s = (prt hi s).bind (slK3 r l) := rfl
@[simp] theorem ev_slK3 (r : Rf) (l u : Option Int) (s : Sg) : slK3 r l u s = slK4 l u s (rd r s) := rfl
@[simp] theorem ev_slK4 (d : D) (l u : Option Int) (s : Sg) : slK4 l u s (some d) = slK5 s (slD d l u) := rfl
@[simp] theorem ev_slK5 (d : D) (s : Sg) : slK5 s (some d) = .ok (.val d) s := rfl
def callK3 (rs : List Rf) (ds : List D) (s : Sg) : FRes → Res Rf
  | .ok r as => .ok (.val r) (unlockS (lkz rs ds as) (lockS (lks rs ds) s))
  | .exc c v => .exc c v s
  | .bad => .bad
def callK2 (f : Fn) (rs : List Rf) (s : Sg) : Option (List D) → Res Rf
  | none => .bad
  | some ds => if nodupB ((lks rs ds).map (·.1)) = true then callK3 rs ds s (f ds) else .bad
def callK (f : Fn) (rs : List Rf) (s : Sg) : Res Rf := callK2 f rs s (rds rs s)
@[simp] theorem ev_oCall (f : Fn) (g : AL) (s : Sg) : oCall f g s = (g s).bind (callK f) := by
  unfold oCall; refine congrArg (Res.bind _) ?_; funext rs s1; unfold callK callK2
  cases rds rs s1 with
  | none => rfl
  | some ds =>
    simp only
    split
    · cases h : f ds <;> simp [h, callK3]
    · rfl
@[simp] theorem ev_callK (f : Fn) (rs : List Rf) (s : Sg) : callK f rs s = callK2 f rs s (rds rs s) := rfl
@[simp] theorem ev_callK2 (f : Fn) (rs : List Rf) (s : Sg) (ds : List D) : callK2 f rs s (some ds) = if nodupB ((lks rs ds).map (·.1)) = true then callK3 rs ds s (f ds) else .bad := rfl
@[simp] theorem ev_callK3 (rs : List Rf) (ds : List D) (s : Sg) (r : D) (as : List D) : callK3 rs ds s (.ok r as) = .ok (.val r) (unlockS (lkz rs ds as) (lockS (lks rs ds) s)) := rfl
@[simp] theorem lks_nil : lks [] [] = [] := rfl
@[simp] theorem lks_slot (i : Nat) (rs : List Rf) (d : D) (ds : List D) : lks (.slot i :: rs) (d :: ds) = if pur d = true then lks rs ds else (i, d) :: lks rs ds := rfl
@[simp] theorem lks_val (x : D) (rs : List Rf) (d : D) (ds : List D) : lks (.val x :: rs) (d :: ds) = lks rs ds := rfl
@[simp] theorem lkz_nil : lkz [] [] [] = [] := rfl
@[simp] theorem lkz_slot (i : Nat) (rs : List Rf) (d : D) (ds : List D) (a : D) (as : List D) : lkz (.slot i :: rs) (d :: ds) (a :: as) = if pur d = true then lkz rs ds as else (i, a) :: lkz rs ds as := rfl
@[simp] theorem lkz_val (x : D) (rs : List Rf) (d : D) (ds : List D) (a : D) (as : List D) : lkz (.val x :: rs) (d :: ds) (a :: as) = lkz rs ds as := rfl
@[simp] theorem lockS_nil (s : Sg) : lockS [] s = s := rfl
@[simp] theorem lockS_cons (p : Nat × D) (l : List (Nat × D)) (s : Sg) : lockS (p :: l) s = lockS l (s.set p.1 none) := rfl
@[simp] theorem unlockS_nil (s : Sg) : unlockS [] s = s := rfl
@[simp] theorem unlockS_cons (p : Nat × D) (l : List (Nat × D)) (s : Sg) : unlockS (p :: l) s = unlockS l (s.set p.1 (some p.2)) := rfl
@[simp] theorem nodupB_nil : nodupB [] = true := rfl
@[simp] theorem ev_nodupB (x : Nat) (l : List Nat) : nodupB (x :: l) = (!l.contains x && nodupB l) := rfl
@[simp] theorem clrS_nil (s : Sg) : clrS [] s = s := rfl
@[simp] theorem clrS_cons (v : Nat) (vs : List Nat) (s : Sg) : clrS (v :: vs) s = (clrS vs s).set v none := rfl
def ownSlK (v : Nat) (l : List (Nat × D)) : Option D → List (Nat × D)
  | some d => (v, d) :: l
  | none => l
@[simp] theorem ownSl_nil (s : Sg) : ownSl [] s = [] := rfl
@[simp] theorem ownSl_cons (v : Nat) (vs : List Nat) (s : Sg) : ownSl (v :: vs) s = ownSlK v (ownSl vs s) (s[v]?).join := by
  unfold ownSlK; rw [ownSl] <;> try (cases (s[v]?).join <;> rfl)
@[simp] theorem ownSlK_some (v : Nat) (l : List (Nat × D)) (d : D) : ownSlK v l (some d) = (v, d) :: l := rfl
@[simp] theorem ownSlK_none (v : Nat) (l : List (Nat × D)) : ownSlK v l none = l := rfl
def mtK4 (i : Nat) (s : Sg) : Option (List D × D) → Res Rf
  | some (ds', d) => if pur d = true then .ok (.val d) (s.set i (some (.list ds'))) else .bad
  | none => .bad
def mtK3 (f : List D → List D → Option (List D × D)) (i : Nat) (s : Sg) : Option D → Option (List D) → Res Rf
  | some (.list ds), some as => mtK4 i s (f ds as)
  | _, _ => .bad
def mtK2 (f : List D → List D → Option (List D × D)) (i : Nat) (rs : List Rf) (s : Sg) : Res Rf := mtK3 f i s (s[i]?).join (owns rs s)
def mtK1 (f : List D → List D → Option (List D × D)) (i : Nat) (g : AL) (s : Sg) : Option D → Res Rf
  | some (.list _) => (g s).bind (mtK2 f i)
  | _ => .bad
def mtK (f : List D → List D → Option (List D × D)) (i : Nat) (g : AL) (_ : Rf) (s : Sg) : Res Rf := mtK1 f i g s (s[i]?).join
@[simp] theorem ev_oMt (f : List D → List D → Option (List D × D)) (i : Nat) (g : AL) (s : Sg) : oMt f i g s = (oV i s).bind (mtK f i g) := by
  unfold oMt; refine congrArg (Res.bind _) ?_; funext r s1; unfold mtK
  cases h : (s1[i]?).join with
  | none => rfl
  | some d => cases d with
    | list ds =>
      refine congrArg (Res.bind (g s1)) ?_
      funext rs s2; unfold mtK2
      cases h1 : (s2[i]?).join with
      | none => rfl
      | some d2 => cases d2 with
        | list ds2 => cases h2 : owns rs s2 with
          | none => rfl
          | some as => cases hf : f ds2 as <;> simp [hf, mtK3, mtK4]
        | _ => rfl
    | _ => rfl
@[simp] theorem ev_mtK (f : List D → List D → Option (List D × D)) (i : Nat) (g : AL) (r : Rf) (s : Sg) : mtK f i g r s = mtK1 f i g s (s[i]?).join := rfl
@[simp] theorem ev_mtK1 (f : List D → List D → Option (List D × D)) (i : Nat) (g : AL) (ds : List D) (s : Sg) : mtK1 f i g s (some (.list ds)) = (g s).bind (mtK2 f i) := rfl
@[simp] theorem ev_mtK2 (f : List D → List D → Option (List D × D)) (i : Nat) (rs : List Rf) (s : Sg) : mtK2 f i rs s = mtK3 f i s (s[i]?).join (owns rs s) := rfl
@[simp] theorem ev_mtK3 (f : List D → List D → Option (List D × D)) (i : Nat) (s : Sg) (ds as : List D) : mtK3 f i s (some (.list ds)) (some as) = mtK4 i s (f ds as) := rfl
@[simp] theorem ev_mtK4 (i : Nat) (s : Sg) (ds : List D) (d : D) : mtK4 i s (some (ds, d)) = if pur d = true then .ok (.val d) (s.set i (some (.list ds))) else .bad := rfl
@[simp] theorem ev_sSkip (s : Sg) : sSkip s = .ok .nx s := rfl
@[simp] theorem ev_sBreak (s : Sg) : sBreak s = .ok .bk s := rfl
@[simp] theorem ev_sCont (s : Sg) : sCont s = .ok .ct s := rfl
@[simp] theorem ev_sRetN (s : Sg) : sRetN s = .ok (.rt .none) s := rfl
def seqK (h : S) (fl : Fl) (s : Sg) : Res Fl := match fl with
  | .nx => h s
  | fl => .ok fl s
@[simp] theorem ev_sSeq (g h : S) (s : Sg) : sSeq g h s = (g s).bind (seqK h) := rfl
@[simp] theorem ev_seqK_nx (h : S) (s : Sg) : seqK h .nx s = h s := rfl
@[simp] theorem ev_seqK_rt (h : S) (d : D) (s : Sg) : seqK h (.rt d) s = .ok (.rt d) s := rfl
@[simp] theorem ev_seqK_bk (h : S) (s : Sg) : seqK h .bk s = .ok .bk s := rfl
@[simp] theorem ev_seqK_ct (h : S) (s : Sg) : seqK h .ct s = .ok .ct s := rfl
def exprK (_ : Rf) (s : Sg) : Res Fl := .ok .nx s
@[simp] theorem ev_sExpr (g : O) (s : Sg) : sExpr g s = (g s).bind exprK := rfl
@[simp] theorem ev_exprK (r : Rf) (s : Sg) : exprK r s = .ok .nx s := rfl
def retK2 (lk : Nat → Bool) (i : Nat) (s : Sg) : Option D → Res Fl
  | none => .bad
  | some d => if pur d = true ∨ lk i = false then .ok (.rt d) s else .bad
def retK (lk : Nat → Bool) (r : Rf) (s : Sg) : Res Fl := match r with
  | .val d => .ok (.rt d) s
  | .slot i => retK2 lk i s (s[i]?).join
@[simp] theorem ev_sRet (lk : Nat → Bool) (g : O) (s : Sg) : sRet lk g s = (g s).bind (retK lk) := by
  unfold sRet; refine congrArg (Res.bind _) ?_; funext r s1; cases r <;> rfl
@[simp] theorem ev_retK_val (lk : Nat → Bool) (d : D) (s : Sg) : retK lk (.val d) s = .ok (.rt d) s := rfl
@[simp] theorem ev_retK_slot (lk : Nat → Bool) (i : Nat) (s : Sg) : retK lk (.slot i) s = retK2 lk i s (s[i]?).join := rfl
@[simp] theorem ev_retK2 (lk : Nat → Bool) (i : Nat) (s : Sg) (d : D) : retK2 lk i s (some d) = if pur d = true ∨ lk i = false then .ok (.rt d) s else .bad := rfl
def ifK (g h : S) (b : Bool) (s : Sg) : Res Fl := if b = true then g s else h s
@[simp] theorem ev_sIf (t : T) (g h : S) (s : Sg) : sIf t g h s = (t s).bind (ifK g h) := rfl
@[simp] theorem ev_ifK (g h : S) (b : Bool) (s : Sg) : ifK g h b s = if b = true then g s else h s := rfl
def asgK3 : Option Sg → Res Fl
  | none => .bad
  | some s => .ok .nx s
def asgK2 (t : Tg) (s : Sg) : Option D → Res Fl
  | none => .bad
  | some d => asgK3 (asg t d s)
def asgK (t : Tg) (r : Rf) (s : Sg) : Res Fl := asgK2 t s (own r s)
@[simp] theorem ev_sAsg (t : Tg) (g : O) (s : Sg) : sAsg t g s = (g s).bind (asgK t) := by
  unfold sAsg; refine congrArg (Res.bind _) ?_; funext r s1; unfold asgK asgK2
  cases own r s1 with
  | none => rfl
  | some d => cases h : asg t d s1 <;> simp [h, asgK3]
@[simp] theorem ev_sSet (i : Nat) (g : O) (s : Sg) : sSet i g s = (g s).bind (asgK (.nm i)) := ev_sAsg _ _ _
@[simp] theorem ev_asgK (t : Tg) (r : Rf) (s : Sg) : asgK t r s = asgK2 t s (own r s) := rfl
@[simp] theorem ev_asgK2 (t : Tg) (d : D) (s : Sg) : asgK2 t s (some d) = asgK3 (asg t d s) := rfl
@[simp] theorem ev_asgK3 (s : Sg) : asgK3 (some s) = .ok .nx s := rfl
@[simp] theorem asg_nm (i : Nat) (d : D) (s : Sg) : asg (.nm i) d s = some (s.set i (some d)) := by simp [asg]
@[simp] theorem asg_tp (l : List Tg) (ds : List D) (s : Sg) : asg (.tp l) (.tuple ds) s = asgs l ds s := by simp [asg]
@[simp] theorem asgs_nil (s : Sg) : asgs [] [] s = some s := by simp [asgs]
def asgsK (l : List Tg) (ds : List D) : Option Sg → Option Sg
  | none => none
  | some s => asgs l ds s
@[simp] theorem asgs_cons (t : Tg) (l : List Tg) (d : D) (ds : List D) (s : Sg) : asgs (t :: l) (d :: ds) s = asgsK l ds (asg t d s) := by
  rw [asgs]; unfold asgsK; cases asg t d s <;> rfl
@[simp] theorem asgsK_some (l : List Tg) (ds : List D) (s : Sg) : asgsK l ds (some s) = asgs l ds s := rfl
def ixK4 (i : Nat) (d : D) (ds : List D) (s : Sg) : Option Nat → Res Fl
  | none => .bad
  | some j => .ok .nx (s.set i (some (.list (ds.set j d))))
def ixK3 (i : Nat) (s : Sg) : Option D → Option D → Option D → Res Fl
  | some d, some (.int k), some (.list ds) => if pur d = true then ixK4 i d ds s (ixN ds.length k) else .bad
  | _, _, _ => .bad
def ixK2 (i : Nat) (r : Rf) (ri : Rf) (s : Sg) : Res Fl := ixK3 i s (own r s) (rd ri s) (s[i]?).join
def ixK1 (i : Nat) (gi : O) (r : Rf) (_ : Rf) (s : Sg) : Res Fl := (gi s).bind (ixK2 i r)
def ixK (i : Nat) (gi : O) (r : Rf) (s : Sg) : Res Fl := (oV i s).bind (ixK1 i gi r)
@[simp] theorem ev_sSetIx (i : Nat) (gi g : O) (s : Sg) : sSetIx i gi g s = (g s).bind (ixK i gi) := by
  unfold sSetIx; refine congrArg (Res.bind _) ?_; funext r s1; unfold ixK; refine congrArg (Res.bind _) ?_; funext r2 s2; unfold ixK1; refine congrArg (Res.bind _) ?_; funext ri s3; unfold ixK2
  cases h1 : own r s3 with
  | none => rfl
  | some d => cases h2 : rd ri s3 with
    | none => rfl
    | some k => cases k with
      | int k => cases h3 : (s3[i]?).join with
        | none => rfl
        | some ds => cases ds with
          | list ds => cases h4 : ixN ds.length k <;> simp [h4, ixK3, ixK4]
          | _ => rfl
      | _ => rfl
@[simp] theorem ev_ixK (i : Nat) (gi : O) (r : Rf) (s : Sg) : ixK i gi r s = (oV i s).bind (ixK1 i gi r) := rfl
@[simp] theorem ev_ixK1 (i : Nat) (gi : O) (r r2 : Rf) (s : Sg) : ixK1 i gi r r2 s = (gi s).bind (ixK2 i r) := rfl
@[simp] theorem ev_ixK2 (i : Nat) (r ri : Rf) (s : Sg) : ixK2 i r ri s = ixK3 i s (own r s) (rd ri s) (s[i]?).join := rfl
@[simp] theorem ev_ixK3 (i : Nat) (s : Sg) (d : D) (k : Int) (ds : List D) : ixK3 i s (some d) (some (.int k)) (some (.list ds)) = if pur d = true then ixK4 i d ds s (ixN ds.length k) else .bad := rfl
@[simp] theorem ev_ixK4 (i : Nat) (s : Sg) (d : D) (j : Nat) (ds : List D) : ixK4 i d ds s (some j) = .ok .nx (s.set i (some (.list (ds.set j d)))) := rfl
def mkK2 (fl : Fl) : Option (List D) → FRes
  | none => .bad
  | some as => match fl with
    | .nx => .ok .none as
    | .rt d => .ok d as
    | _ => .bad
def mkK (ms : List Nat) (ds : List D) : Res Fl → FRes
  | .ok fl s => mkK2 fl (coll ms ds 0 s)
  | .exc c v _ => .exc c v
  | .bad => .bad
theorem ev_mkFn (ms : List Nat) (n : Nat) (g : S) (ds : List D) : mkFn ms n g ds = if okM ms ds = true then mkK ms ds (g (ds.map some ++ List.replicate (n - ds.length) none)) else .bad := by
  unfold mkFn
  split
  · unfold mkK
    cases g (ds.map some ++ List.replicate (n - ds.length) none) with
    | ok fl s =>
      simp only
      cases h : coll ms ds 0 s with
      | none => simp [h, mkK2]
      | some as => cases fl <;> simp [h, mkK2]
    | exc c v s => rfl
    | bad => rfl
  · rfl
@[simp] theorem ev_mkK (ms : List Nat) (ds : List D) (fl : Fl) (s : Sg) : mkK ms ds (.ok fl s) = mkK2 fl (coll ms ds 0 s) := rfl
@[simp] theorem ev_mkK2_rt (d : D) (as : List D) : mkK2 (.rt d) (some as) = .ok d as := rfl
@[simp] theorem ev_mkK2_nx (as : List D) : mkK2 .nx (some as) = .ok .none as := rfl
@[simp] theorem coll_nil (j : Nat) (s : Sg) : coll [] [] j s = some [] := rfl
def collK0 (a : Option D) (b : Option (List D)) : Option (List D) := match b with
  | none => none
  | some as => match a with
    | none => none
    | some d' => some (d' :: as)
@[simp] theorem coll_0 (ms : List Nat) (d : D) (ds : List D) (j : Nat) (s : Sg) : coll (0 :: ms) (d :: ds) j s = collK0 (s[j]?).join (coll ms ds (j + 1) s) := by
  rw [coll]; unfold collK0; cases coll ms ds (j + 1) s <;> rfl
@[simp] theorem coll_1 (ms : List Nat) (d : D) (ds : List D) (j : Nat) (s : Sg) : coll (1 :: ms) (d :: ds) j s = collK0 (some d) (coll ms ds (j + 1) s) := by
  rw [coll]; unfold collK0; cases coll ms ds (j + 1) s <;> rfl
@[simp] theorem collK0_some (d : D) (as : List D) : collK0 (some d) (some as) = some (d :: as) := rfl
@[simp] theorem okM_nil : okM [] [] = true := rfl
@[simp] theorem okM_cons (m : Nat) (ms : List Nat) (d : D) (ds : List D) : okM (m :: ms) (d :: ds) = ((m == 0 || pur d) && okM ms ds) := rfl
def mkIK3 (rs : List Rf) (ds : List D) (s : Sg) : Option (List D) → Res (List D × List (Nat × D))
  | none => .bad
  | some es => if purs es = true ∧ nodupB ((lks rs ds).map (·.1)) = true then .ok (es, lks rs ds) (lockS (lks rs ds) s) else .bad
def mkIK2 (itm : List D → Option (List D)) (rs : List Rf) (s : Sg) : Option (List D) → Res (List D × List (Nat × D))
  | none => .bad
  | some ds => mkIK3 rs ds s (itm ds)
def mkIK (itm : List D → Option (List D)) (rs : List Rf) (s : Sg) : Res (List D × List (Nat × D)) := mkIK2 itm rs s (rds rs s)
@[simp] theorem ev_mkI (itm : List D → Option (List D)) (g : AL) (s : Sg) : mkI itm g s = (g s).bind (mkIK itm) := by
  unfold mkI; refine congrArg (Res.bind _) ?_; funext rs s1; unfold mkIK mkIK2
  cases rds rs s1 with
  | none => rfl
  | some ds => cases h : itm ds <;> simp [h, mkIK3]
@[simp] theorem ev_mkIK (itm : List D → Option (List D)) (rs : List Rf) (s : Sg) : mkIK itm rs s = mkIK2 itm rs s (rds rs s) := rfl
@[simp] theorem ev_mkIK2 (itm : List D → Option (List D)) (rs : List Rf) (s : Sg) (ds : List D) : mkIK2 itm rs s (some ds) = mkIK3 rs ds s (itm ds) := rfl
@[simp] theorem ev_mkIK3 (rs : List Rf) (ds : List D) (s : Sg) (es : List D) : mkIK3 rs ds s (some es) = if purs es = true ∧ nodupB ((lks rs ds).map (·.1)) = true then .ok (es, lks rs ds) (lockS (lks rs ds) s) else .bad := rfl
def forK2 (l : List (Nat × D)) (fl : Fl) (s : Sg) : Res Fl := .ok fl (unlockS l s)
def forK (lk : Nat → Bool) (t : Tg) (g : S) (p : List D × List (Nat × D)) (s : Sg) : Res Fl := if (p.2.all fun q => lk q.1) = true then (loopS t g p.1 s).bind (forK2 p.2) else .bad
@[simp] theorem ev_sFor (lk : Nat → Bool) (it : I) (t : Tg) (g : S) (s : Sg) : sFor lk it t g s = (it s).bind (forK lk t g) := rfl
@[simp] theorem ev_forK (lk : Nat → Bool) (t : Tg) (g : S) (es : List D) (l : List (Nat × D)) (s : Sg) : forK lk t g (es, l) s = if (l.all fun q => lk q.1) = true then (loopS t g es s).bind (forK2 l) else .bad := rfl
@[simp] theorem ev_forK2 (l : List (Nat × D)) (fl : Fl) (s : Sg) : forK2 l fl s = .ok fl (unlockS l s) := rfl
def compK2 (l : List (Nat × D)) (acc : List D) (s : Sg) : Res Rf := .ok (.val (.list acc)) (unlockS l s)
def compK (t : Tg) (c : T) (e : O) (vs : List Nat) (p : List D × List (Nat × D)) (s : Sg) : Res Rf :=
  if nodupB ((ownSl vs s).map (·.1)) = true then (compL t c e vs p.1 [] (clrS vs (lockS (ownSl vs s) s))).bind (compK2 (ownSl vs s ++ p.2)) else .bad
@[simp] theorem ev_oComp (it : I) (t : Tg) (c : T) (e : O) (vs : List Nat) (s : Sg) : oComp it t c e vs s = (it s).bind (compK t c e vs) := rfl
@[simp] theorem ev_compK (t : Tg) (c : T) (e : O) (vs : List Nat) (es : List D) (l : List (Nat × D)) (s : Sg) : compK t c e vs (es, l) s =
  if nodupB ((ownSl vs s).map (·.1)) = true then (compL t c e vs es [] (clrS vs (lockS (ownSl vs s) s))).bind (compK2 (ownSl vs s ++ l)) else .bad := rfl
@[simp] theorem ev_compK2 (l : List (Nat × D)) (acc : List D) (s : Sg) : compK2 l acc s = .ok (.val (.list acc)) (unlockS l s) := rfl
@[simp] theorem ev_tYes (s : Sg) : tYesT s = .ok true s := rfl
@[simp] theorem ev_add (a b : Int) : pAdd [.int a, .int b] = some (.int (a + b)) := rfl
@[simp] theorem ev_addL (a b : List D) : pAdd [.list a, .list b] = if a.length + b.length ≤ 1000000 ∧ purs a = true ∧ purs b = true then some (.list (a ++ b)) else none := rfl
@[simp] theorem ev_addT (a b : List D) : pAdd [.tuple a, .tuple b] = if a.length + b.length ≤ 1000000 ∧ purs a = true ∧ purs b = true then some (.tuple (a ++ b)) else none := rfl
@[simp] theorem ev_sub (a b : Int) : pSub [.int a, .int b] = some (.int (a - b)) := rfl
@[simp] theorem ev_mul (a b : Int) : pMul [.int a, .int b] = if mulOk a b = true then some (.int (a * b)) else none := rfl
@[simp] theorem ev_div (a b : Int) : pDiv [.int a, .int b] = if 0 < b ∧ b.natAbs.log2 < 9000 then some (.int (a / b)) else none := rfl
@[simp] theorem ev_mod (a b : Int) : pMod [.int a, .int b] = if 0 < b then some (.int (a % b)) else none := rfl
@[simp] theorem ev_pow (a b : Int) : pPow [.int a, .int b] = if 0 ≤ b ∧ b ≤ 1000000 ∧ a.natAbs < 2 ^ 64 then some (.int (a ^ b.toNat)) else none := rfl
@[simp] theorem ev_shl (a b : Int) : pShl [.int a, .int b] = if 0 ≤ b ∧ b ≤ 1000000 ∧ a.natAbs < 2 ^ 64 then some (.int (a * 2 ^ b.toNat)) else none := rfl
@[simp] theorem ev_neg (a : Int) : pNeg [.int a] = some (.int (-a)) := rfl
@[simp] theorem ev_lt (a b : Int) : pLt [.int a, .int b] = some (.bool (decide (a < b))) := rfl
@[simp] theorem ev_le (a b : Int) : pLe [.int a, .int b] = some (.bool (decide (a ≤ b))) := rfl
@[simp] theorem ev_gt (a b : Int) : pGt [.int a, .int b] = some (.bool (decide (b < a))) := rfl
@[simp] theorem ev_ge (a b : Int) : pGe [.int a, .int b] = some (.bool (decide (b ≤ a))) := rfl
@[simp] theorem ev_eq (a b : D) : pEq [a, b] = if shp a = true ∧ shp b = true then some (.bool (PyData.eqv a b)) else none := rfl
@[simp] theorem ev_ne (a b : D) : pNe [a, b] = if shp a = true ∧ shp b = true then some (.bool (!PyData.eqv a b)) else none := rfl
@[simp] theorem ev_isB (a b : Bool) : pIsN [.bool a, .bool b] = some (.bool (decide (a = b))) := rfl
@[simp] theorem ev_notB (a b : Bool) : pNotN [.bool a, .bool b] = some (.bool (!decide (a = b))) := rfl
@[simp] theorem ev_isN (a : D) : pIsN [a, .none] = some (.bool (isN a)) := rfl
@[simp] theorem ev_notN (a : D) : pNotN [a, .none] = some (.bool (!isN a)) := rfl
@[simp] theorem ev_inT (a : D) (b : List D) : pIn [a, .tuple b] = if pIn.fl a = true ∧ b.all pIn.fl = true then some (.bool (b.any fun z => PyData.eqv z a)) else none := by cases a <;> rfl
@[simp] theorem ev_ixL (ds : List D) (i : Int) : pIx [.list ds, .int i] = puO (atI ds i) := rfl
@[simp] theorem ev_ixT (ds : List D) (i : Int) : pIx [.tuple ds, .int i] = puO (atI ds i) := rfl
@[simp] theorem ev_ixF (ds : List D) (i : Int) : pIx [.dict [(.none, .list ds)], .int i] = puO (atI ds i) := rfl
@[simp] theorem ev_puO (d : D) : puO (some d) = if pur d = true then some d else none := rfl
@[simp] theorem ev_slL (ds : List D) (l u : Option Int) : slD (.list ds) l u = if purs ds = true then some (.list (cutL ds l u)) else none := rfl
@[simp] theorem ev_slT (ds : List D) (l u : Option Int) : slD (.tuple ds) l u = if purs ds = true then some (.tuple (cutL ds l u)) else none := rfl
@[simp] theorem ev_slF (ds : List D) (l u : Option Int) : slD (.dict [(.none, .list ds)]) l u = some (.list (cutL ds l u)) := rfl
@[simp] theorem ev_lenL (ds : List D) : pLen [.list ds] = some (.int ds.length) := rfl
@[simp] theorem ev_lenT (ds : List D) : pLen [.tuple ds] = some (.int ds.length) := rfl
@[simp] theorem ev_lenF (ds : List D) : pLen [.dict [(.none, .list ds)]] = some (.int ds.length) := rfl
@[simp] theorem ev_abs (i : Int) : pAbs [.int i] = some (.int (if i < 0 then -i else i)) := rfl
@[simp] theorem ev_intI (i : Int) : pInt [.int i] = some (.int i) := rfl
@[simp] theorem ev_intB (k : Bool) : pInt [.bool k] = some (.int (if k then 1 else 0)) := rfl
@[simp] theorem ev_max2 (i j : Int) : pMax2 [.int i, .int j] = some (.int (max i j)) := rfl
@[simp] theorem ev_min2 (i j : Int) : pMin2 [.int i, .int j] = some (.int (min i j)) := rfl
@[simp] theorem ev_tupL (ds : List D) : pTuple [.list ds] = if purs ds = true then some (.tuple ds) else none := rfl
@[simp] theorem ev_tupT (ds : List D) : pTuple [.tuple ds] = if purs ds = true then some (.tuple ds) else none := rfl
@[simp] theorem ev_lstL (ds : List D) : pList [.list ds] = if purs ds = true then some (.list ds) else none := rfl
@[simp] theorem ev_lstT (ds : List D) : pList [.tuple ds] = if purs ds = true then some (.list ds) else none := rfl
@[simp] theorem ev_divmod (i j : Int) : pDivmod [.int i, .int j] = if 0 < j ∧ j < 1000000 then some (.tuple [.int (i / j), .int (i % j)]) else none := rfl
@[simp] theorem bools_map {α : Type} (f : α → Bool) (l : List α) : bools (l.map fun a => .bool (f a)) = some (l.map f) := by
  induction l with
  | nil => rfl
  | cons a l ih => simp [bools, ih]
@[simp] theorem intsD_map {α : Type} (f : α → Int) (l : List α) : intsD (l.map fun a => .int (f a)) = some (l.map f) := by
  induction l with
  | nil => rfl
  | cons a l ih => simp [intsD, ih]
@[simp] theorem intsD_int (l : List Int) : intsD (l.map .int) = some l := by
  induction l with
  | nil => rfl
  | cons a l ih => simp [intsD, ih]
@[simp] theorem ev_all (ds : List D) : pAll [.list ds] = (bools ds).map fun bs => .bool (bs.all id) := rfl
@[simp] theorem ev_any (ds : List D) : pAny [.list ds] = (bools ds).map fun bs => .bool (bs.any id) := rfl
@[simp] theorem ev_sumL (ds : List D) : pSum [.list ds] = (intsD ds).map fun ns => .int ns.sum := rfl
@[simp] theorem ev_sumT (ds : List D) : pSum [.tuple ds] = (intsD ds).map fun ns => .int ns.sum := rfl
@[simp] theorem ev_itPL (ds : List D) : itP [.list ds] = some ds := rfl
@[simp] theorem ev_itPT (ds : List D) : itP [.tuple ds] = some ds := rfl
@[simp] theorem ev_itPF (ds : List D) : itP [.dict [(.none, .list ds)]] = some ds := rfl
@[simp] theorem ev_itEL (ds : List D) : itE [.list ds] = some (enumD 0 ds) := rfl
@[simp] theorem ev_itET (ds : List D) : itE [.tuple ds] = some (enumD 0 ds) := rfl
@[simp] theorem ev_itEF (ds : List D) : itE [.dict [(.none, .list ds)]] = some (enumD 0 ds) := rfl
@[simp] theorem purs_enumD (n : Nat) (ds : List D) : purs (enumD n ds) = purs ds := enumD_purs n ds
@[simp] theorem purs_rngD (lo : Int) (n : Nat) : purs (rngD lo n) = true := by unfold rngD; exact purs_map _ _
@[simp] theorem ev_itR1 (j : Int) : itR1 [.int j] = if -1000000 < j ∧ j < 1000000 then some (rngD 0 j.toNat) else none := rfl
@[simp] theorem ev_itR2 (i j : Int) : itR2 [.int i, .int j] = if -1000000 < i ∧ i < 1000000 ∧ -1000000 < j ∧ j < 1000000 then some (rngD i (j - i).toNat) else none := rfl
@[simp] theorem ev_itZLL (a b : List D) : itZ [.list a, .list b] = some (zipD a b) := rfl
@[simp] theorem ev_itZTT (a b : List D) : itZ [.tuple a, .tuple b] = some (zipD a b) := rfl
@[simp] theorem ev_itZLT (a b : List D) : itZ [.list a, .tuple b] = some (zipD a b) := rfl
@[simp] theorem ev_itZTL (a b : List D) : itZ [.tuple a, .list b] = some (zipD a b) := rfl
@[simp] theorem ev_mApp (ds : List D) (d : D) : mApp ds [d] = if ds.length < 1000000 then some (ds ++ [d], .none) else none := rfl
@[simp] theorem ev_isi (k : Kd) (d : D) : pIsi k [d] = if okD d = true then some (.bool (isK k d)) else none := rfl
@[simp] theorem lkM_eq (ms : List Nat) (i : Nat) : lkM ms i = (ms[i]? == some 0) := rfl
@[simp] theorem lkp_eq (is : List Nat) (lk : Nat → Bool) (i : Nat) : lkp is lk i = (is.contains i || lk i) := rfl
@[simp] theorem eqv_int (a b : Int) : PyData.eqv (.int a) (.int b) = decide (a = b) := by
  first | rfl | simp [PyData.eqv] | (unfold PyData.eqv; simp)
@[simp] theorem eqv_bool (a b : Bool) : PyData.eqv (.bool a) (.bool b) = decide (a = b) := by
  first | (cases a <;> cases b <;> rfl) | simp [PyData.eqv]
end Sim
namespace Sim
open PySem PySem.Spec L2
theorem lay_ints : ∀ ns : List Int, PyData.canLayAll0 (ns.map PyData.int) = true
  | [] => rfl
  | _ :: r => by simp [PyData.canLayAll0, PyData.canLay0, lay_ints r]
theorem depth_ints : ∀ ns : List Int, PyData.depthAll (ns.map PyData.int) = 0
  | [] => rfl
  | _ :: r => by simp [PyData.depthAll, PyData.depth, depth_ints r]
theorem noD_ints : ∀ ns : List Int, noDs (ns.map PyData.int) = true
  | [] => rfl
  | _ :: r => by simp [noDs, noD, noD_ints r]
@[simp] theorem shp_int (i : Int) : shp (.int i) = true := by simp [shp, SeqAt.shaped, PyData.canLay0, PyData.depth, noD]
@[simp] theorem shp_bool (i : Bool) : shp (.bool i) = true := by simp [shp, SeqAt.shaped, PyData.canLay0, PyData.depth, noD]
@[simp] theorem shp_tupI (ns : List Int) : shp (.tuple (ns.map PyData.int)) = true := by
  simp [shp, SeqAt.shaped, PyData.canLay0, PyData.depth, lay_ints, depth_ints, noD, noD_ints]
@[simp] theorem shp_lstI (ns : List Int) : shp (.list (ns.map PyData.int)) = true := by
  simp [shp, SeqAt.shaped, PyData.canLay0, PyData.depth, lay_ints, depth_ints, noD, noD_ints]
theorem eqvAll_ints : ∀ ns ms : List Int, PyData.eqvAll (ns.map PyData.int) (ms.map PyData.int) = decide (ns = ms)
  | [], [] => by simp [PyData.eqvAll]
  | [], _ :: _ => by simp [PyData.eqvAll]
  | _ :: _, [] => by simp [PyData.eqvAll]
  | a :: r, b :: t => by
    simp only [List.map_cons, PyData.eqvAll, eqv_int, eqvAll_ints r t]
    by_cases h : a = b <;> by_cases h' : r = t <;> simp [h, h']
@[simp] theorem eqv_tupI (ns ms : List Int) : PyData.eqv (.tuple (ns.map PyData.int)) (.tuple (ms.map PyData.int)) = decide (ns = ms) := by
  simp only [PyData.eqv]; exact eqvAll_ints ns ms
@[simp] theorem eqv_lstI (ns ms : List Int) : PyData.eqv (.list (ns.map PyData.int)) (.list (ms.map PyData.int)) = decide (ns = ms) := by
  simp only [PyData.eqv]; exact eqvAll_ints ns ms
@[simp] theorem cutL_to {α : Type} (xs : List α) (n : Nat) : cutL xs none (some (n : Int)) = xs.take n := by
  unfold cutL
  rw [HT.sIx_nat, HT.sIx_none, Nat.sub_zero, List.drop_zero]
  rcases Nat.le_total n xs.length with h | h
  · rw [Nat.min_eq_left h]
  · rw [Nat.min_eq_right h, List.take_length, List.take_of_length_le h]
@[simp] theorem cutL_from {α : Type} (xs : List α) (n : Nat) : cutL xs (some (n : Int)) none = xs.drop n := by
  unfold cutL
  rw [HT.sIx_nat, HT.sIx_none]
  rcases Nat.le_total n xs.length with h | h
  · rw [Nat.min_eq_left h, List.take_of_length_le (by simp)]
  · rw [Nat.min_eq_right h, Nat.sub_self, List.take_zero, List.drop_of_length_le h]
/-- a number's length in bits is small -/
theorem log2_lt {n : Nat} {k : Nat} (h : n < 2 ^ k) (hk : 0 < k) : n.log2 < k := by
  by_cases h0 : n = 0
  · subst h0; simpa using hk
  · exact (Nat.log2_lt h0).mpr h
theorem mulOk_l {a b : Int} (h1 : -(2 ^ 64) < a) (h2 : a < 2 ^ 64) : mulOk a b = true := by unfold mulOk; simp only [decide_eq_true h1, decide_eq_true h2, Bool.and_self, Bool.true_or, Bool.or_true]
theorem mulOk_r {a b : Int} (h1 : -(2 ^ 64) < b) (h2 : b < 2 ^ 64) : mulOk a b = true := by unfold mulOk; simp only [decide_eq_true h1, decide_eq_true h2, Bool.and_self, Bool.true_or, Bool.or_true]
@[simp] theorem loop_nil (t : Tg) (g : S) (s : Sg) : loopS t g [] s = .ok .nx s := rfl
def loopK2 (t : Tg) (g : S) (ds : List D) (fl : Fl) (s : Sg) : Res Fl := match fl with
  | .nx => loopS t g ds s
  | .ct => loopS t g ds s
  | .bk => .ok .nx s
  | .rt d => .ok (.rt d) s
def loopK1 (t : Tg) (g : S) (ds : List D) : Option Sg → Res Fl
  | none => .bad
  | some s => (g s).bind (loopK2 t g ds)
@[simp] theorem loop_cons (t : Tg) (g : S) (d : D) (ds : List D) (s : Sg) : loopS t g (d :: ds) s = loopK1 t g ds (asg t d s) := by
  rw [loopS]; dsimp only; unfold loopK1; cases asg t d s <;> rfl
@[simp] theorem loopK1_some (t : Tg) (g : S) (ds : List D) (s : Sg) : loopK1 t g ds (some s) = (g s).bind (loopK2 t g ds) := rfl
@[simp] theorem loopK2_nx (t : Tg) (g : S) (ds : List D) (s : Sg) : loopK2 t g ds .nx s = loopS t g ds s := rfl
@[simp] theorem loopK2_ct (t : Tg) (g : S) (ds : List D) (s : Sg) : loopK2 t g ds .ct s = loopS t g ds s := rfl
@[simp] theorem loopK2_bk (t : Tg) (g : S) (ds : List D) (s : Sg) : loopK2 t g ds .bk s = .ok .nx s := rfl
@[simp] theorem loopK2_rt (t : Tg) (g : S) (ds : List D) (d : D) (s : Sg) : loopK2 t g ds (.rt d) s = .ok (.rt d) s := rfl
@[simp] theorem comp_nil (t : Tg) (c : T) (e : O) (vs : List Nat) (acc : List D) (s : Sg) : compL t c e vs [] acc s = .ok acc s := rfl
def cmK5 (t : Tg) (c : T) (e : O) (vs : List Nat) (ds acc : List D) (s : Sg) : Option D → Res (List D)
  | none => .bad
  | some y => if acc.length < 1000000 then compL t c e vs ds (acc ++ [y]) (clrS vs s) else .bad
def cmK4 (t : Tg) (c : T) (e : O) (vs : List Nat) (ds acc : List D) (r : Rf) (s : Sg) : Res (List D) := cmK5 t c e vs ds acc s (own r s)
def cmK3 (t : Tg) (c : T) (e : O) (vs : List Nat) (ds acc : List D) (b : Bool) (s : Sg) : Res (List D) := if b = true then (e s).bind (cmK4 t c e vs ds acc) else compL t c e vs ds acc (clrS vs s)
def cmK1 (t : Tg) (c : T) (e : O) (vs : List Nat) (ds acc : List D) : Option Sg → Res (List D)
  | none => .bad
  | some s => (c s).bind (cmK3 t c e vs ds acc)
@[simp] theorem comp_cons (t : Tg) (c : T) (e : O) (vs : List Nat) (d : D) (ds acc : List D) (s : Sg) : compL t c e vs (d :: ds) acc s = cmK1 t c e vs ds acc (asg t d s) := by
  rw [compL]; unfold cmK1
  cases asg t d s with
  | none => rfl
  | some s1 =>
    simp only
    refine congrArg (Res.bind _) ?_
    funext b s2
    unfold cmK3
    split
    · refine congrArg (Res.bind _) ?_
      funext r s3
      unfold cmK4 cmK5
      cases own r s3 <;> rfl
    · rfl
@[simp] theorem cmK1_some (t : Tg) (c : T) (e : O) (vs : List Nat) (ds acc : List D) (s : Sg) : cmK1 t c e vs ds acc (some s) = (c s).bind (cmK3 t c e vs ds acc) := rfl
@[simp] theorem cmK3_eq (t : Tg) (c : T) (e : O) (vs : List Nat) (ds acc : List D) (b : Bool) (s : Sg) : cmK3 t c e vs ds acc b s = if b = true then (e s).bind (cmK4 t c e vs ds acc) else compL t c e vs ds acc (clrS vs s) := rfl
@[simp] theorem cmK4_eq (t : Tg) (c : T) (e : O) (vs : List Nat) (ds acc : List D) (r : Rf) (s : Sg) : cmK4 t c e vs ds acc r s = cmK5 t c e vs ds acc s (own r s) := rfl
@[simp] theorem cmK5_some (t : Tg) (c : T) (e : O) (vs : List Nat) (ds acc : List D) (s : Sg) (y : D) : cmK5 t c e vs ds acc s (some y) = if acc.length < 1000000 then compL t c e vs ds (acc ++ [y]) (clrS vs s) else .bad := rfl
end Sim
namespace Sim
open PySem PySem.Spec L2
theorem for_ok {lk : Nat → Bool} {it : I} {t : Tg} {g : S} {s s1 s2 : Sg} {es : List D} {l : List (Nat × D)} {fl : Fl} (h1 : it s = .ok (es, l) s1) (h2 : (l.all fun q => lk q.1) = true) (h3 : loopS t g es s1 = .ok fl s2) : sFor lk it t g s = .ok fl (unlockS l s2) := by
  rw [ev_sFor, h1, ev_ok, ev_forK, if_pos h2, h3]; rfl
theorem mkFn_rt {ms : List Nat} {n : Nat} {g : S} {ds as : List D} {r : D} {s : Sg} (h1 : okM ms ds = true) (h2 : g (ds.map some ++ List.replicate (n - ds.length) none) = .ok (.rt r) s) (h3 : coll ms ds 0 s = some as) : mkFn ms n g ds = .ok r as := by
  rw [ev_mkFn, if_pos h1, h2, ev_mkK, h3]; rfl
theorem mkFn_nx {ms : List Nat} {n : Nat} {g : S} {ds as : List D} {s : Sg} (h1 : okM ms ds = true) (h2 : g (ds.map some ++ List.replicate (n - ds.length) none) = .ok .nx s) (h3 : coll ms ds 0 s = some as) : mkFn ms n g ds = .ok .none as := by
  rw [ev_mkFn, if_pos h1, h2, ev_mkK, h3]; rfl
theorem oCall_ok {f : Fn} {g : AL} {s s1 : Sg} {rs : List Rf} {ds as : List D} {r : D} (h1 : g s = .ok rs s1) (h2 : rds rs s1 = some ds) (h3 : nodupB ((lks rs ds).map (·.1)) = true) (h4 : f ds = .ok r as) : oCall f g s = .ok (.val r) (unlockS (lkz rs ds as) (lockS (lks rs ds) s1)) := by
  rw [ev_oCall, h1, ev_ok, ev_callK, h2, ev_callK2, if_pos h3, h4]; rfl
@[simp] theorem purs_takeI (A : List Int) (n : Nat) : purs (List.take n (A.map PyData.int)) = true := by rw [← List.map_take]; exact purs_ints _
@[simp] theorem purs_dropI (A : List Int) (n : Nat) : purs (List.drop n (A.map PyData.int)) = true := by rw [← List.map_drop]; exact purs_ints _
end Sim
namespace Sim
open PySem PySem.Spec L2
def pickL {α : Type} (xs : List α) (lo hi st : Option Int) : List α :=
  (sliceRange (sliceBounds lo hi st xs.length).1 (sliceBounds lo hi st xs.length).2.1 (sliceBounds lo hi st xs.length).2.2).filterMap (xs[·]?)
section
open PyProof.Rows
variable {prog : Program} {w : World} {A : Around} {E : Value → Shared → Prop} {s : Shared}
theorem fm_all {α β : Type} {f : α → Option β} {g : α → β} : ∀ l : List α, (∀ m ∈ l, f m = some (g m)) → l.filterMap f = l.map g
  | [], _ => rfl
  | a :: l, h => by rw [List.filterMap_cons_some (h a (List.mem_cons_self ..)), fm_all l fun m hm => h m (List.mem_cons_of_mem _ hm)]; rfl
theorem pick_rev (l : List Value) : ((List.range l.length).filterMap fun (m : Nat) => l.toArray[(((l.length : Nat) : Int) - 1 + (m : Int) * (-1)).toNat]?) = l.reverse := by
  rw [fm_all (g := fun m => (l.reverse[m]?).getD .none) _ fun m hm => ?_]
  · refine List.ext_getElem (by simp) fun i h1 h2 => ?_
    simp only [List.getElem_map, List.getElem_range]
    rw [List.getElem?_eq_getElem h2]; rfl
  · have hm := List.mem_range.mp hm
    have e : (((l.length : Nat) : Int) - 1 + (m : Int) * (-1)).toNat = l.length - 1 - m := by omega
    rw [e, List.getElem?_reverse hm]
    simp only [List.getElem?_toArray]
    rw [List.getElem?_eq_getElem (by omega)]; rfl
theorem sliceApplied_rev {sl : Addr} {vs : Value} {n : Nat} {Q : Int × Int × Nat → Shared → Prop} (hs : s.heap.IsSliceOf sl .none .none vs) (ps : IsPart vs (some (-1)))
    (h : Q (((n : Int) - 1), -1, n) s) : wpAny (model prog w) A (Builtin.Slice.sliceApplied (.ref sl) (pure (n : Int))) Q E s := by
  obtain ⟨os, hos, hcs, hds⟩ := id hs
  unfold Builtin.Slice.sliceApplied Builtin.Slice.sliceFields
  refine wpAny_bind (wpAny_bind (wpAny_field hos hds (x := .none) rfl (wpAny_bind (wpAny_field hos hds (x := .none) rfl (wpAny_bind (wpAny_field hos hds (x := vs) rfl (wpAny_pure ?_)))))))
  refine wpAny_bind (HT.slicePart_ ps ?_)
  show wpAny _ _ (if ((-1 : Int) == 0) = true then _ else _) _ _ s
  rw [if_neg (by decide)]
  refine wpAny_bind (slicePart_none (wpAny_bind (slicePart_none (wpAny_bind (wpAny_pure ?_)))))
  have e1 : Builtin.Slice.sliceAdjust none none (-1) (n : Int) = ((n : Int) - 1, -1) := by
    unfold Builtin.Slice.sliceAdjust; simp
  have e2 : Builtin.Slice.slicePlaces ((n : Int) - 1) (-1) (-1) = n := by
    unfold Builtin.Slice.slicePlaces
    simp
    omega
  show wpAny _ _ (match Builtin.Slice.sliceAdjust none none (-1) (n : Int) with | (lo, hi) => pure (lo, (-1 : Int), Builtin.Slice.slicePlaces lo hi (-1))) _ _ s
  rw [e1]
  show wpAny _ _ (pure ((n : Int) - 1, (-1 : Int), Builtin.Slice.slicePlaces ((n : Int) - 1) (-1) (-1))) _ _ s
  rw [e2]
  exact wpAny_pure h
theorem getItem_tuple_rev {t sl : Addr} {its : List Value} {vs : Value} {Q : Value → Shared → Prop} (ht : IsTup s.heap t its.toArray) (hs : s.heap.IsSliceOf sl .none .none vs) (ps : IsPart vs (some (-1)))
    (h : Q (.ref s.heap.objs.size) { s with heap := s.heap.push { cls := .type "tuple", data := .seq its.reverse.toArray } })
    (hsz : its.length ≤ sizeLine) : wpAny (model prog w) A (getItem (.ref t) (.ref sl)) Q E s := by
  have htake : sizeOk (.seq its.reverse.toArray) := by
    show its.reverse.toArray.size ≤ sizeLine
    rw [List.size_toArray, List.length_reverse]
    exact hsz
  obtain ⟨os, hos, hcs, hds⟩ := id hs
  have hTs : s.TypeIs (.ref sl) "slice" := ⟨os, hos, hcs⟩
  unfold getItem
  try with_reducible refine wpAny_holding ?_
  first | refine wpAny_bind (wpAny_pure ?_) | skip
  refine wpAny_bind (wpAny_sequenceKey ht.typeIs (by decide) ?_)
  refine wpAny_bind (wpAny_callSpecial?_slot (name := Str.ofString "__getitem__") ht.typeIs PyProof.Rows.slot_tuple_getitem
    (wpAny_call_entry PyProof.Rows.slot_tuple_getitem ht.typeIs entry_tuple_getitem ?_ (args_tuple_getitem _ _)))
  show wpAny _ _ (Builtin.Tuple.tupleItemsOf (.ref t) >>= _) _ _ s
  refine wpAny_bind (tupleItemsOf_ ht ?_)
  refine wpAny_bind (wpAny_typeOf hTs ?_)
  rw [if_pos (by decide)]
  refine wpAny_bind (sliceApplied_rev (n := its.toArray.size) hs ps ?_)
  have hno : ¬ ((((its.toArray.size : Int) - 1) == 0 && (-1 : Int) == 1 && (its.toArray.size) == its.toArray.size) = true) := by
    intro q
    rw [Bool.and_eq_true, Bool.and_eq_true] at q
    have := eq_of_beq q.1.2
    omega
  show wpAny _ _ (if (((its.toArray.size : Int) - 1) == 0 && (-1 : Int) == 1 && (its.toArray.size) == its.toArray.size) = true then _ else _) _ _ s
  rw [if_neg hno, List.size_toArray, pick_rev]
  first
    | exact wpAny_bind (m := Builtin.Tuple.tupleExact _) (wpAny_newObj_type (wpAny_pure ⟨_, rfl, wpAny_pure h⟩) htake)
    | exact wpAny_bind (m := Builtin.Tuple.tupleExact _) (wpAny_newObj_type (wpAny_bind (wpAny_pure (wpAny_pure ⟨_, rfl, wpAny_pure h⟩))) htake)
    | exact wpAny_bind (wpAny_bind (m := Builtin.Tuple.tupleExact _) (wpAny_newObj_type (wpAny_pure (wpAny_pure ⟨_, rfl, wpAny_pure h⟩)) htake))
    | exact wpAny_bind (wpAny_bind (m := Builtin.Tuple.tupleExact _) (wpAny_newObj_type (wpAny_pure ⟨_, rfl, wpAny_pure h⟩) htake))
end
def stD : D → Option Int → Option Int → Option Int → Option D
  | .list ds, lo, hi, st => if purs ds = true ∧ st ≠ some 0 ∧ (pickL ds lo hi st).length ≤ 1000000 then some (.list (pickL ds lo hi st)) else none
  | .tuple ds, none, none, some (-1) => if purs ds = true ∧ ds.length ≤ 1000000 then some (.tuple ds.reverse) else none
  | _, _, _, _ => none
def oSt (g : O) (lo hi st : Option O) : O := fun s => (g s).bind fun r s1 => (prt lo s1).bind fun l s2 => (prt hi s2).bind fun u s3 => (prt st s3).bind fun t s4 => match rd r s4 with
  | none => .bad
  | some d => match stD d l u t with
    | none => .bad
    | some d' => .ok (.val d') s4
theorem vals_pick {xs : List V} {us : List Value} (r : Vals xs us) : ∀ ix : List Nat, Vals (ix.filterMap (xs[·]?)) (ix.filterMap (us[·]?))
  | [] => .nil
  | i :: ix => by
    have key : ∀ {xs : List V} {us : List Value}, Vals xs us → ∀ i : Nat, (xs[i]? = none ∧ us[i]? = none) ∨ ∃ x u, xs[i]? = some x ∧ us[i]? = some u ∧ RelV x u := by
      intro xs us r
      induction r with
      | nil => intro i; exact .inl ⟨rfl, rfl⟩
      | cons h t ih =>
        intro i
        cases i with
        | zero => exact .inr ⟨_, _, rfl, rfl, h⟩
        | succ i => simpa using ih i
    rcases key r i with ⟨h1, h2⟩ | ⟨x, u, h1, h2, h3⟩
    · rw [List.filterMap_cons_none h1, List.filterMap_cons_none h2]
      exact vals_pick r ix
    · rw [List.filterMap_cons_some h1, List.filterMap_cons_some h2]
      exact .cons h3 (vals_pick r ix)
section
variable {K : PySem.W.Frag} {H : Hp}
theorem OwnA.pick {ds : List D} {vs : List V} (t : OwnA K H ds vs []) : ∀ ix : List Nat, OwnA K H (ix.filterMap (ds[·]?)) (ix.filterMap (vs[·]?)) []
  | [] => .nil
  | i :: ix => by
    have hl := t.len
    by_cases hi : i < ds.length
    · obtain ⟨v, G, hv, o, sub⟩ := t.get i ds[i] (List.getElem?_eq_getElem hi)
      have : G = [] := by
        cases G with
        | nil => rfl
        | cons a G => exact absurd (sub a (List.mem_cons_self ..)) (by simp)
      subst this
      rw [List.filterMap_cons_some (List.getElem?_eq_getElem hi), List.filterMap_cons_some hv]
      exact .cons0 o (OwnA.pick t ix)
    · rw [List.filterMap_cons_none (List.getElem?_eq_none (by omega)), List.filterMap_cons_none (List.getElem?_eq_none (by omega))]
      exact OwnA.pick t ix
variable {X : Cx} {a : Expr} {ga : O} {pos p2 : Pos}
theorem stD_inv {d d' : D} {l u t : Option Int} (h : stD d l u t = some d') : (∃ ds, d = .list ds ∧ d' = .list (pickL ds l u t) ∧ purs ds = true ∧ t ≠ some 0 ∧ (pickL ds l u t).length ≤ 1000000) ∨ (∃ ds, d = .tuple ds ∧ l = none ∧ u = none ∧ t = some (-1) ∧ d' = .tuple ds.reverse ∧ purs ds = true ∧ ds.length ≤ 1000000) := by
  unfold stD at h
  split at h
  · split at h
    · rename_i hp
      cases h
      exact .inl ⟨_, rfl, rfl, hp⟩
    · cases h
  · split at h
    · rename_i hp
      cases h
      exact .inr ⟨_, rfl, rfl, rfl, rfl, rfl, hp⟩
    · cases h
  · cases h
theorem vals_rev {xs : List V} {us : List Value} (r : Vals xs us) : Vals xs.reverse us.reverse := by
  induction r with
  | nil => exact .nil
  | cons h _ ih => rw [List.reverse_cons, List.reverse_cons]; exact ih.append (.cons h .nil)
theorem owna_rev {K : PySem.W.Frag} {H : Hp} : ∀ {ds : List D} {vs : List V} {F : List Addr}, OwnA K H ds vs F → purs ds = true → OwnA K H ds.reverse vs.reverse []
  | [], _, _, .nil, _ => .nil
  | d :: ds, _, _, @OwnA.cons _ _ v vs _ _ F G o t n, p => by
    simp only [purs, Bool.and_eq_true] at p
    have e := o.pur p.1
    subst e
    rw [List.reverse_cons, List.reverse_cons]
    have : ∀ {as : List D} {us : List V}, OwnA K H as us [] → OwnA K H (as ++ [d]) (us ++ [v]) [] := by
      intro as us h
      generalize hG : ([] : List Addr) = G at h
      induction as generalizing us G with
      | nil =>
        cases h
        rw [hG]
        rw [← hG] at *
        exact .cons0 o .nil
      | cons a as ih =>
        cases h with
        | @cons v1 vs1 _ _ F1 G1 o1 t1 n1 =>
          have h1 : F1 = [] := by cases F1 with
            | nil => rfl
            | cons _ _ => cases hG
          have h2 : G1 = [] := by rw [h1] at hG; exact hG.symm
          subst h1
          subst h2
          exact .cons0 o1 (ih _ rfl t1)
    exact this (owna_rev t p.2)
theorem so_step {lo hi : Option Expr} {st : Expr} {l u t : Option O} (ha : SimO X a ga) (hl : SimP X lo l) (hu : SimP X hi u) (hs : SimP X (some st) t) : SimO X (.Subscript a (.Slice lo hi (some st) p2) pos) (oSt ga l u t) := by
  refine ⟨fun pins s σ H Q I z => ?_⟩
  obtain ⟨sg, Fs, rf, sg', R, e, q⟩ := z
  obtain ⟨r, g1, e1, e⟩ := bind_inv e
  obtain ⟨l', g2, e2, e⟩ := bind_inv e
  obtain ⟨u', g3, e3, e⟩ := bind_inv e
  obtain ⟨t', g4, e4, e⟩ := bind_inv e
  refine PyProof.Rows.Subscript_ (thn (ha.run pins s σ H (fun v H1 => ∃ Fs1 F, RelS X.K H1 g1 σ Fs1 ∧ Ev H Fs H1 Fs1 ∧ RfOk X.K H1 σ Fs1 r v F) I ⟨sg, Fs, r, g1, R, e1, fun v H1 Fs1 F R1 E1 k1 n1 => ⟨Fs1, F, R1, E1, k1⟩⟩) fun v s1 ⟨x, H1, I1, r1, Fs1, F, R1, E1, k1⟩ => ?_)
  refine wpAny_Slice (thn (hl.run pins s1 σ H1 (fun o H2 => o = l' ∧ ∃ Fs2, RelS X.K H2 g2 σ Fs2 ∧ Ev H1 Fs1 H2 Fs2) I1 ⟨g1, Fs1, l', g2, R1, e2, fun H2 Fs2 R2 E2 => ⟨rfl, Fs2, R2, E2⟩⟩) fun vl s2 ⟨o1, H2, I2, pl, eo1, Fs2, R2, E2⟩ => ?_)
  subst eo1
  refine thn (hu.run pins s2 σ H2 (fun o H3 => o = u' ∧ ∃ Fs3, RelS X.K H3 g3 σ Fs3 ∧ Ev H2 Fs2 H3 Fs3) I2 ⟨g2, Fs2, u', g3, R2, e3, fun H3 Fs3 R3 E3 => ⟨rfl, Fs3, R3, E3⟩⟩) fun vu s3 ⟨o2, H3, I3, pu, eo2, Fs3, R3, E3⟩ => ?_
  subst eo2
  refine thn (hs.run pins s3 σ H3 (fun o H4 => o = t' ∧ ∃ Fs4, RelS X.K H4 g4 σ Fs4 ∧ Ev H3 Fs3 H4 Fs4) I3 ⟨g3, Fs3, t', g4, R3, e4, fun H4 Fs4 R4 E4 => ⟨rfl, Fs4, R4, E4⟩⟩) fun vs s4 ⟨o3, H4, I4, ps, eo3, Fs4, R4, E4⟩ => ?_
  subst eo3
  split at e
  · cases e
  · rename_i d hd
    split at e
    · cases e
    · rename_i d' hd'
      cases e
      obtain ⟨F', o⟩ := (((k1.ev E2).ev E3).ev E4).dp R4 hd
      rcases stD_inv hd' with ⟨ds, rfl, rfl, hp⟩ | ⟨ds, rfl, rfl, rfl, rfl, rfl, hp⟩
      · ·
          obtain ⟨ad, xs, F0, rfl, rfl, hx, tt, nn⟩ := own_list o
          have e0 := tt.pur hp.1
          subst e0
          cases r1
          have I5 : Inv X pins σ H4 { s4 with heap := s4.heap.push { cls := .type "slice", data := .fields #[vl, vu, vs] } } := I4.kept (t' := s4.toks) fun b ob q => Heap.get?_push_of_some _ q
          obtain ⟨its, rr, ht, hz⟩ := I5.list (SqL.of hx)
          have hlen := rr.length
          show wpAny (model X.prog X.w) X.A (PyProof.Rows.subscriptTail a (.Slice lo hi (some st) p2) (.ref ad) (.ref s4.heap.objs.size)) (EP X pins σ Q) X.xe { s4 with heap := s4.heap.push { cls := .type "slice", data := .fields #[vl, vu, vs] } }
          refine PyProof.Rows.tail_any (ops := [.ref ad, .ref s4.heap.objs.size]) ht.isList.typeIs (PySem.slot_list_getitem.lookup) ?_ (by with_unfolding_all rfl)
          refine wpAny_getItem_list_slice ht.isList (Heap.IsSliceOf.new _ vl vu vs) pl pu ps hp.2.1 ?_ (by rw [List.size_toArray]; omega)
          have ep : slicePick its.toArray o1 o2 o3 = (pickL its o1 o2 o3).toArray := by
            unfold slicePick pickL
            simp only [List.size_toArray, List.getElem?_toArray]
          have nv : NewV X.K H4 (.list (pickL ds o1 o2 o3)) (.ref (s4.heap.push { cls := .type "slice", data := .fields #[vl, vu, vs] }).objs.size) (upd H4 (s4.heap.push { cls := .type "slice", data := .fields #[vl, vu, vs] }).objs.size (.lst (pickL xs o1 o2 o3))) := by
            refine .lst ?_ (I5.hok.fresh (Nat.le_refl _))
            unfold pickL
            rw [tt.len]
            exact tt.pick _
          obtain ⟨R5, E5, F5, k5, n5⟩ := nv.ok R4
          have lp : (pickL xs o1 o2 o3).length = (pickL ds o1 o2 o3).length := by
            unfold pickL
            rw [tt.len]
            exact (tt.pick _).len
          rw [ep]
          refine ⟨.ref _, _, I5.laid (t' := s4.toks) (o := .lst (pickL xs o1 o2 o3)) (fun b ob q => Heap.get?_push_of_some _ q) (Nat.le_refl _) ?_, rfl, ?_⟩
          · refine ⟨by rw [lp]; exact Nat.le_trans hp.2.2 big_le, _, 0, ?_, Heap.get?_push_size _ rfl⟩
            unfold pickL
            rw [hlen]
            exact vals_pick rr _
          · have fr := (((E1.trans E2).trans E3).trans E4)
            exact q _ _ Fs4 F5 R5 (fr.trans E5) k5 fun a ha => fr.chg.there a (n5 a ha)
      · ·
          cases o with
          | @tup ad xs _ _ hx tt =>
            have e0 := tt.pur hp.1
            subst e0
            cases r1
            have I5 : Inv X pins σ H4 { s4 with heap := s4.heap.push { cls := .type "slice", data := .fields #[vl, vu, vs] } } := I4.kept (t' := s4.toks) fun b ob q => Heap.get?_push_of_some _ q
            obtain ⟨its, rr, ht, hz⟩ := I5.tuple hx.sq
            have hlen := rr.length
            cases pl
            cases pu
            show wpAny (model X.prog X.w) X.A (PyProof.Rows.subscriptTail a (.Slice lo hi (some st) p2) (.ref ad) (.ref s4.heap.objs.size)) (EP X pins σ Q) X.xe { s4 with heap := s4.heap.push { cls := .type "slice", data := .fields #[.none, .none, vs] } }
            refine PyProof.Rows.tail_any (ops := [.ref ad, .ref s4.heap.objs.size]) ht.typeIs (PyProof.Rows.slot_tuple_getitem.lookup) ?_ (by with_unfolding_all rfl)
            refine getItem_tuple_rev ht (Heap.IsSliceOf.new _ .none .none vs) ps ?_ (by rw [← hlen]; exact hz)
            have ll : xs.reverse.length ≤ sizeLine := by rw [List.length_reverse]; exact hz
            refine lay_tup (t' := s4.toks) I5 (vals_rev rr) ll fun p ob hpn hd => ?_
            have nv : NewV X.K H4 (.tuple ds.reverse) (.ref p) (upd H4 p (.frz ob (.tup xs.reverse))) := .tup (owna_rev tt hp.1) hpn hd
            obtain ⟨R5, E5, F5, k5, n5⟩ := nv.ok R4
            have fr := (((E1.trans E2).trans E3).trans E4)
            exact q _ _ Fs4 F5 R5 (fr.trans E5) k5 fun a ha => fr.chg.there a (n5 a ha)
def pTupleRg : List D → Option D
  | [.int j] => if -1000000 < j ∧ j < 1000000 then some (.tuple (rngD 0 j.toNat)) else none
  | [.int i, .int j] => if -1000000 < i ∧ i < 1000000 ∧ -1000000 < j ∧ j < 1000000 then some (.tuple (rngD i (j - i).toNat)) else none
  | _ => none
theorem own_rgV (i j : Int) : OwnA K H (rngD i (j - i).toNat) (rgV i j) [] := by
  unfold rngD rgV
  generalize (List.range (j - i).toNat) = l
  induction l with
  | nil => exact .nil
  | cons n l ih => exact .cons0 (.int _) ih
def rTRg : List V → Hp → VK → Prop := fun vs H Q => (∃ j, vs = [.int j] ∧ RgOk 0 j ∧ rNewT (rgV 0 j) H Q) ∨ ∃ i j, vs = [.int i, .int j] ∧ RgOk i j ∧ rNewT (rgV i j) H Q
theorem pr_trg : PrimR K rTRg pTupleRg := by
  intro vs ds d H Q h e q
  unfold pTupleRg at e
  split at e
  · obtain ⟨x, F, rfl, o⟩ := h.one
    cases o
    split at e
    · rename_i j hj
      cases e
      have z := own_rgV (K := K) (H := H) 0 j
      rw [Int.sub_zero] at z
      exact .inl ⟨_, rfl, ⟨by omega, by omega, by omega, by omega, by omega⟩, fun p ob hp hn => q _ _ (.tup z hp hn)⟩
    · cases e
  · obtain ⟨x, y, F, G, rfl, o, o2⟩ := h.two
    cases o; cases o2
    split at e
    · rename_i i j hj
      cases e
      exact .inr ⟨_, _, rfl, ⟨by omega, by omega, by omega, by omega, by omega⟩, fun p ob hp hn => q _ _ (.tup (own_rgV i j) hp hn)⟩
    · cases e
  · cases e
def tTupRgD (te : St → Hp → (Int → Int → Hp → Prop) → Prop) : TE := fun σ H Q => te σ H fun a b H1 => RgOk a b ∧ rNewT (rgV a b) H1 Q
theorem pe_tupRgD {e : Expr} {te : St → Hp → (Int → Int → Hp → Prop) → Prop} {p pos : Pos} (hc : X.calm = true) (hg : Gl X "tuple") (hm : X.mg "tuple" = none) (he : PRg X e te) (na : starEach [e] X.env = (false, eval e X.env) :: starEach [] X.env := by rfl) : PE X (.Call (.Name "tuple" p) [e] [] pos) (tTupRgD te) := by
  refine ⟨fun pins s σ H Q I h => ?_⟩
  refine PyProof.Rows.Call_ (ld_blt I hg hm bt_tuple (PyProof.Rows.callWith_type1 (PyProof.Rows.args_cons (thn (he pins s σ H _ I h) fun x s1 ⟨r, a, b, t, u, v, H1, ex, hr, I1, ok, q⟩ => PyProof.Rows.args_nil ?_) na) na))
  subst ex
  obtain ⟨b1, b2, b3, b4, b5⟩ := ok
  refine call_tuple_range (n := (b - a).toNat) (I1.ok.hd hc) hr (small_one b1 b2 b3 b4) (PyProof.Rows.rangeSize_nat a b) b5 fun h' tk acc hk hi => ?_
  have I2 : L2.Inv X pins σ H1 { s1 with heap := h', toks := tk } := I1.kept hk
  have z := lay_tup (t' := tk) I2 (vals_rg hi) (by rw [rgV_length, sizeLine_eq]; omega) q
  rw [Array.toArray_toList] at z
  exact z
variable {b : Expr} {p pos2 : Pos} {gb : O}
theorem so_tupleRg1 (hc : X.calm = true) (hg : Gl X "tuple") (hm : X.mg "tuple" = none) (hg2 : Gl X "range") (hm2 : X.mg "range" = none) (ha : SimO X a ga) (na : starEach [a] X.env = (false, eval a X.env) :: starEach [] X.env := by rfl)
    (nr : starEach [.Call (.Name "range" p2) [a] [] pos2] X.env = (false, eval (.Call (.Name "range" p2) [a] [] pos2) X.env) :: starEach [] X.env := by rfl) : SimO X (.Call (.Name "tuple" p) [.Call (.Name "range" p2) [a] [] pos2] [] pos) (oPrim pTupleRg (aCons ga aNil)) :=
  pe_imp (pe_tupRgD hc hg hm (prg_1 hg2 hm2 ha na) nr) fun σ H Q h => by
    have z := tA1 (prim pr_trg h)
    refine tO_mono (fun v H1 w => ?_) z
    rcases w with ⟨j, e, w⟩ | ⟨i, j, e, w⟩
    · cases e; exact ⟨_, rfl, w⟩
    · cases e
end
end Sim
namespace SimSrt
open PySem PyProof.Rows Srt SrtO
section
variable {prog : Program} {w : World} {A : Around} {E : Value → Shared → Prop} {s : Shared}
end
end SimSrt
namespace Sim
open PySem PySem.Spec L2
end Sim
namespace Sim
open PySem PySem.Spec L2
def pIndexT : List D → Option D
  | [.tuple ds, y] => if pIn.fl y = true ∧ ds.all pIn.fl = true then (ds.findIdx? fun z => PyData.eqv z y).map fun j => .int (j : Nat) else none
  | _ => none
def oIdxT (g h : O) : O := fun s => (g s).bind fun r s1 => match rd r s1 with
  | some (.tuple _) => (h s1).bind fun r2 s2 => (match rds [r, r2] s2 with
    | none => .bad
    | some ds => (match pIndexT ds with
      | none => .bad
      | some d => .ok (.val d) s2))
  | _ => .bad
theorem sqD_is {X : Cx} {pins : List (Addr × Obj)} {σ : St} {H : Hp} {s : Shared} {a : Addr} {xs : List V} (I : L2.Inv X pins σ H s) (h : SqD X.K H a xs) :
    ∃ (o : Obj) (its : List Value) (n : Nat), s.heap.get? a = some o ∧ o.cls = .type "tuple" ∧ o.dict = none ∧ o.data = .seq its.toArray n ∧ Vals xs its := by
  rcases h with ⟨o, h, hd⟩ | ⟨o, its, n, h1, h2, hd, h3, h4, h5⟩
  · obtain ⟨e, _, its, r, o', e', c, n, d⟩ := (show ObjOk X.prog X.w H s.heap a (.frz o (.tup xs)) from I.hok a _ h)
    rw [e] at e'
    cases e'
    exact ⟨o, its, n, e, c, hd, d, r⟩
  · exact ⟨o, its.toList, n, I.kIn a o h1, h2, hd, by simpa using h3, h5⟩
def rIdxT (K : PySem.W.Frag) : V → List V → Hp → VK → Prop := fun x xs H Q => ∃ (a : Addr) (ys : List V) (y : V) (j : Nat) (z : V), x = V.ref a ∧ xs = [y] ∧ SqD K H a ys ∧ flatV y = true ∧ ys.all flatV = true ∧ ys[j]? = some z ∧ eqV z y = true ∧
  (∀ (m : Nat) (z' : V), m < j → ys[m]? = some z' → eqV z' y = false) ∧ Q (.int (j : Nat)) H
section
variable {X : Cx}
theorem mt_idxT : MtR X "tuple.index" (rIdxT X.K) := by
  intro pins s σ H x xs v us Q I rx rxs h
  obtain ⟨a, ys, y, j, z, rfl, rfl, hs, fy, fys, hz, hzj, hno, q⟩ := h
  cases rx
  cases rxs with
  | cons ry rt =>
    rename_i uy ut
    cases rt
    obtain ⟨⟨cls, dd, data, sl⟩, its, n, ho, hc, hdn, hd, rv⟩ := sqD_is I hs
    simp only at hc hd hdn
    subst hc hd
    obtain ⟨u, hu, ru⟩ := rv.get hz
    obtain ⟨hjl, hje⟩ := List.getElem?_eq_some_iff.mp hu
    have hvl := rv.length
    have hj : j < its.toArray.size := by simpa using hjl
    refine call_meets PySem.F.slot_tuple_index ⟨_, ho, rfl⟩ PySem.F.entry_tuple_index (PySem.F.args_tuple_index_2 _ _)
      (PySem.SeqAt.tuple_index2_found a its.toArray n dd sl uy (fun i => ((its[i]?).map (eqU y)).getD false) j hj (Nat.zero_le _) hj ?_ ?_) ⟨ho, fun i hi => ?_, ?_⟩
    · show ((its[j]?).map (eqU y)).getD false = true
      rw [hu]
      show eqU y u = true
      rw [eqU_of ru (flat_at fys hz)]
      exact hzj
    · intro m hm _ hmj
      have hml : m < its.length := by simpa using hm
      have hmy : m < ys.length := by omega
      have hy' : ys[m]? = some ys[m] := List.getElem?_eq_getElem hmy
      obtain ⟨u2, hu2, ru2⟩ := rv.get hy'
      show ((its[m]?).map (eqU y)).getD false = false
      rw [hu2]
      show eqU y u2 = false
      rw [eqU_of ru2 (flat_at fys hy')]
      exact hno m _ hmj hy'
    · have hil : i < its.length := by simpa using hi
      show PySem.SeqAt.EqAt _ _ its.toArray[i] uy (((its[i]?).map (eqU y)).getD false)
      rw [List.getElem?_eq_getElem hil]
      exact mem_eqAt ry fy rv fys _ (by simp)
    · exact ⟨.int (j : Nat), H, I.tok _, ⟨_, rfl⟩, q⟩
variable {o e : Expr} {es : List Expr} {to : TE} {t : TA} {name : Str} {apos cpos : Pos} {T id : String} {r : V → List V → Hp → VK → Prop}
theorem pe_bmT (slot : Slot "tuple" name id) (hty : typeOf (.builtin id) = pure (.type "method_descriptor")) (hm : MtR X id r) (ho : PE X o to) (ha : PA X (e :: es) t)
    (hbase : attributeBase o name X.env (eval o X.env) = eval o X.env := by rfl)
    (hfew : ((backTo cpos (starEach (e :: es) X.env)).all (fun x => !x.1) && (backToKw cpos (keywordEach [] X.env)).all (fun x => x.1.isSome)
      && decide ((e :: es).length + ([] : List Keyword).length + (if ([] : List Keyword).isEmpty then 0 else 1) < 30)) = true := by rfl)
    (hline : (apos.endLine == cpos.line) = true := by rfl) (hs : starEach (e :: es) X.env = (false, eval e X.env) :: starEach es X.env := by rfl) (hplain : (backTo cpos (starEach es X.env)).any (·.1) = false := by rfl) :
    PE X (.Call (.Attribute o name apos) (e :: es) [] cpos) (fun σ H Q => to σ H fun x H1 => (∃ a xs, x = .ref a ∧ SqD X.K H1 a xs) ∧ t σ H1 fun ws H2 => r x ws H2 Q) := by
  refine ⟨fun pins s σ H Q I h => ?_⟩
  refine wpAny_Call_method_late hbase hfew hline rfl (thn (ho.run pins s σ H _ I h) fun v s1 ⟨x, H1, I1, r1, ty, q1⟩ => ?_)
  obtain ⟨a, xs, ex, hq⟩ := ty
  subst ex
  have r1' := r1
  cases r1'
  obtain ⟨ob, its, n, e1, c1, d1, _, _⟩ := sqD_is I1 hq
  refine ⟨"tuple", id, PySem.F.plainAttrs_tuple, slot, hty, ⟨ob, e1, c1⟩, fun a' ea => (by cases ea; exact ⟨ob, e1, d1⟩), ?_⟩
  have hA := ha.run cpos pins s1 σ H1 _ I1 q1
  rw [hs] at hA ⊢
  refine Calls.callWith_builtin (by show (false || (backTo cpos (starEach es X.env)).any (·.1)) = false; rw [hplain] <;> rfl) (Calls.evalArgs_plain ?_)
  exact thn hA fun us s2 ⟨vs, H2, I2, r2, q2⟩ => hm pins s2 σ H2 _ vs _ us Q I2 r1 r2 q2
theorem find_fl {K : PySem.W.Frag} {H : Hp} {y : D} {vy : V} {Fy : List Addr} (oy : Own K H y vy Fy) (hy : pIn.fl y = true) : ∀ {ds : List D} {vs : List V} {F : List Addr}, OwnA K H ds vs F → ds.all pIn.fl = true → ∀ (j : Nat), ds.findIdx? (fun z => PyData.eqv z y) = some j →
    ∃ z, vs[j]? = some z ∧ eqV z vy = true ∧ (∀ (m : Nat) (z' : V), m < j → vs[m]? = some z' → eqV z' vy = false) := by
  intro ds
  induction ds with
  | nil => intro vs F _ _ j h; simp at h
  | cons d ds ih =>
    intro vs F t ha j h
    cases t with
    | @cons v vs _ _ F1 F2 o t n =>
      rw [List.all_cons, Bool.and_eq_true] at ha
      obtain ⟨e1, _, _⟩ := eqV_eqv o oy ha.1 hy
      rw [List.findIdx?_cons] at h
      cases c : PyData.eqv d y with
      | true =>
        rw [c] at h
        simp only [if_true, Option.some.injEq] at h
        subst h
        exact ⟨v, rfl, by rw [e1]; exact c, fun m _ hm _ => by omega⟩
      | false =>
        rw [c] at h
        simp only [Bool.false_eq_true, if_false] at h
        cases hf : ds.findIdx? (fun z => PyData.eqv z y) with
        | none => rw [hf] at h; cases h
        | some j' =>
          rw [hf] at h
          cases h
          obtain ⟨z, h1, h2, h3⟩ := ih t ha.2 j' hf
          refine ⟨z, h1, h2, fun m z' hm hz => ?_⟩
          cases m with
          | zero =>
            simp at hz
            subst hz
            rw [e1]; exact c
          | succ m =>
            have hm2 : m + 1 < j' + 1 := hm
            exact h3 m z' (by omega) (by simpa using hz)
theorem fl_flat {K : PySem.W.Frag} {H : Hp} : ∀ {ds : List D} {vs : List V} {F : List Addr}, OwnA K H ds vs F → ds.all pIn.fl = true → vs.all flatV = true
  | [], _, _, t, _ => by cases t; rfl
  | d :: ds, _, _, t, h => by
    cases t with
    | cons o t n =>
      rw [List.all_cons, Bool.and_eq_true] at h
      rw [List.all_cons, fl_flat t h.2, Bool.and_true]
      exact (eqV_eqv o o h.1 h.1).2.1
theorem tO_idxT {K : PySem.W.Frag} {g h : O} {σ : St} {H : Hp} {Q : VK} (z : tO K (oIdxT g h) σ H Q) : tO K g σ H fun x H1 => (∃ a xs, x = .ref a ∧ SqD K H1 a xs) ∧ tA K (aCons h aNil) σ H1 fun ws H2 => rIdxT K x ws H2 Q := by
  obtain ⟨s, Fs, rf, s', R, e, q⟩ := z
  obtain ⟨r, s1, e1, e⟩ := bind_inv e
  refine ⟨s, Fs, r, s1, R, e1, fun v H1 Fs1 F1 R1 E1 k1 n1 => ?_⟩
  split at e
  · rename_i ds0 hd0
    obtain ⟨F0, o0⟩ := k1.dp R1 hd0
    have ty : ∃ a xs, v = .ref a ∧ SqD K H1 a xs := by
      cases o0 with
      | tup hq t => exact ⟨_, _, rfl, hq⟩
    refine ⟨ty, ?_⟩
    obtain ⟨r2, s2, e2, e⟩ := bind_inv e
    refine ⟨s1, Fs1, [r2], s2, R1, by unfold aCons aNil; rw [e2]; rfl, fun ws H2 Fs2 Gs R2 E2 k2 n2 => ?_⟩
    split at e
    · cases e
    · rename_i ds hds
      split at e
      · cases e
      · rename_i d hd
        cases e
        cases k2 with
        | @val d2 v2 F2 rs vs Gs2 A2 nn kr =>
          cases kr
          have rr := rfs2 (k1.ev E2) (.val A2) R2 hds
          unfold pIndexT at hd
          split at hd
          · obtain ⟨x, y, F, G, ee, oa, ob⟩ := rr.two
            cases ee
            split at hd
            · rename_i hp
              cases hj : (List.findIdx? (fun z => PyData.eqv z _) _) with
              | none => rw [hj] at hd; cases hd
              | some j =>
                rw [hj] at hd
                cases hd
                cases oa with
                | tup hq t =>
                  obtain ⟨z, h1, h2, h3⟩ := find_fl ob hp.1 t hp.2 j hj
                  refine ⟨_, _, _, j, z, rfl, rfl, hq, (eqV_eqv ob ob hp.1 hp.1).2.1, fl_flat t hp.2, h1, h2, h3, ?_⟩
                  exact q _ H2 Fs2 [] R2 (E1.trans E2) (.val ⟨.int _, fun _ _ _ z => nomatch z⟩) (fun _ z => nomatch z)
            · cases hd
          · cases hd
        | @slot i v2 rs vs Gs2 hv kr =>
          cases kr
          have rr := rfs2 (k1.ev E2) (.slot hv) R2 hds
          unfold pIndexT at hd
          split at hd
          · obtain ⟨x, y, F, G, ee, oa, ob⟩ := rr.two
            cases ee
            split at hd
            · rename_i hp
              cases hj : (List.findIdx? (fun z => PyData.eqv z _) _) with
              | none => rw [hj] at hd; cases hd
              | some j =>
                rw [hj] at hd
                cases hd
                cases oa with
                | tup hq t =>
                  obtain ⟨z, h1, h2, h3⟩ := find_fl ob hp.1 t hp.2 j hj
                  refine ⟨_, _, _, j, z, rfl, rfl, hq, (eqV_eqv ob ob hp.1 hp.1).2.1, fl_flat t hp.2, h1, h2, h3, ?_⟩
                  exact q _ H2 Fs2 [] R2 (E1.trans E2) (.val ⟨.int _, fun _ _ _ z => nomatch z⟩) (fun _ z => nomatch z)
            · cases hd
          · cases hd
  · cases e
theorem so_idxT {ga gb : O} (ho : SimO X o ga) (ha : SimO X e gb)
    (hbase : attributeBase o "index" X.env (eval o X.env) = eval o X.env := by rfl)
    (hfew : ((backTo cpos (starEach [e] X.env)).all (fun x => !x.1) && (backToKw cpos (keywordEach [] X.env)).all (fun x => x.1.isSome)
      && decide (([e] : List Expr).length + ([] : List Keyword).length + (if ([] : List Keyword).isEmpty then 0 else 1) < 30)) = true := by rfl)
    (hline : (apos.endLine == cpos.line) = true := by rfl) (hs : starEach [e] X.env = (false, eval e X.env) :: starEach [] X.env := by rfl) (hplain : (backTo cpos (starEach [] X.env)).any (·.1) = false := by rfl) :
    SimO X (.Call (.Attribute o "index" apos) [e] [] cpos) (oIdxT ga gb) :=
  pe_imp (pe_bmT PySem.F.slot_tuple_index PySem.F.type_tuple_index mt_idxT ho (sa_cons ha sa_nil hs) hbase hfew hline hs hplain) fun _ _ _ h => tO_idxT h
end
def putAll : List Nat → List D → Sg → Sg
  | i :: l, d :: ds, s => putAll l ds (s.set i (some d))
  | _, _, s => s
def sPar (l : List Nat) (g : AL) : S := fun s => (g s).bind fun rs s1 => match owns rs s1 with
  | none => .bad
  | some ds => if ds.length = l.length then .ok .nx (putAll l ds s1) else .bad
section
variable {X : Cx} {lk : Nat → Bool}
theorem ss_par {i j : Nat} {x y : Str} {a b : Expr} {g : AL} {px py pt pos pt2 : Pos} {kt k2 : Nat} (hc : X.calm = true) (hN : X.N.Nodup) (hi : X.N[i]? = some x) (hj : X.N[j]? = some y) (hij : i ≠ j)
    (hx : X.env.scope.names.lookup x = some .local) (hy : X.env.scope.names.lookup y = some .local) (li : lk i = false) (lj : lk j = false) (ha : SimA X [a, b] g)
    (hw : swappedStores [.Tuple [.Name x px, .Name y py] kt pt] (.Tuple [a, b] k2 pt2) X.env = pure (some [x, y]) := by rfl)
    (hs : swapsWithSole [.Tuple [.Name x px, .Name y py] kt pt] (.Tuple [a, b] k2 pt2) pos.line X.env = pure false := by rfl) :
    SimS X lk (.Assign [.Tuple [.Name x px, .Name y py] kt pt] (.Tuple [a, b] k2 pt2) pos) (sPar [i, j] g) := by
  refine ps_imp (ps_par hc hN hi hj hij hx hy ha hw hs) fun D σ H z => ?_
  obtain ⟨s, Fs, fl, s', R, e, q⟩ := z
  obtain ⟨rs, s1, e1, e⟩ := bind_inv e
  refine ⟨s, Fs, rs, s1, R, e1, fun vs H1 Fs1 Gs R1 E1 k1 n1 => ?_⟩
  split at e
  · cases e
  · rename_i ds hds
    split at e
    · rename_i hl
      cases e
      obtain ⟨oa, dj⟩ := k1.own R1 hds
      match ds, hl with
      | [d1, d2], _ =>
        have gf : ∀ a, a ∈ Gs.flatten → H a = none := fun a ha => by
          obtain ⟨G, hG, hb⟩ := List.mem_flatten.mp ha
          exact n1 G hG a hb
        generalize hGf : Gs.flatten = GF at *
        cases oa with
        | @cons v1 _ _ _ F1 F2' o1 t1 nn =>
          obtain ⟨v2, rfl, o2⟩ := owna1 t1
          refine ⟨v1, v2, rfl, ?_⟩
          obtain ⟨FsA, RA, nA⟩ := R1.put ⟨o1, fun k a hk ha => dj k a hk (List.mem_append_left _ ha)⟩ i
          obtain ⟨FsB, RB, nB⟩ := RA.put ⟨o2, fun k a hk ha => by
            rcases nA k a hk with ⟨w, _⟩ | ⟨w, _⟩
            · exact dj k a w (List.mem_append_right _ ha)
            · exact nn a w ha⟩ j
          refine q _ H1 FsB RB ⟨E1.chg, fun k a h => ?_⟩ ((Lk.set li).trans (Lk.set lj))
          rcases nB k a h with ⟨w, _⟩ | ⟨w, _⟩
          · rcases nA k a w with ⟨w, _⟩ | ⟨w, _⟩
            · exact E1.new k a w
            · exact .inr (gf a (List.mem_append_left _ w))
          · exact .inr (gf a (List.mem_append_right _ w))
    · cases e
end
end Sim
namespace Sim
open PySem PySem.Spec L2
def ownR (lk : Nat → Bool) (r : Rf) (s : Sg) : Option D := match r with
  | .val d => some d
  | .slot i => match (s[i]?).join with
    | none => none
    | some d => if pur d = true ∨ lk i = false then some d else none
def ownsR (lk : Nat → Bool) : List Rf → Sg → Option (List D)
  | [], _ => some []
  | r :: rs, s => match ownR lk r s with
    | none => none
    | some d => match ownsR lk rs s with
      | none => none
      | some ds => some (d :: ds)
def sRetT (lk : Nat → Bool) (g : AL) : S := fun s => (g s).bind fun rs s1 => match ownsR lk rs s1 with
  | none => .bad
  | some ds => if ds.length ≤ 1000000 ∧ nodupB ((lks rs ds).map (·.1)) = true then .ok (.rt (.tuple ds)) s1 else .bad
section
variable {K : PySem.W.Frag} {H : Hp} {s : Sg} {σ : St} {Fs : Fp} {lk : Nat → Bool}
theorem Rfs.off {rs : List Rf} {vs : List V} {Gs : List (List Addr)} (r : Rfs K H σ Fs rs vs Gs) : ∀ G, G ∈ Gs → ∀ i a, a ∈ Fs i → a ∉ G := by
  induction r with
  | nil => intro G h; cases h
  | val A _ _ ih =>
    intro G h i a ha
    rcases List.mem_cons.mp h with rfl | h
    · exact A.dis i a ha
    · exact ih G h i a ha
  | slot _ _ ih =>
    intro G h i a ha
    rcases List.mem_cons.mp h with rfl | h
    · intro z; cases z
    · exact ih G h i a ha
theorem Rfs.ownR (R : RelS K H s σ Fs) {rs : List Rf} {vs : List V} {Gs : List (List Addr)} (r : Rfs K H σ Fs rs vs Gs) : ∀ {ds : List D}, ownsR lk rs s = some ds → nodupB ((lks rs ds).map (·.1)) = true →
    ∃ F, OwnA K H ds vs F ∧ ∀ a, a ∈ F → (∃ G, G ∈ Gs ∧ a ∈ G) ∨ ∃ i, i ∈ (lks rs ds).map (·.1) ∧ lk i = false ∧ a ∈ Fs i := by
  induction r with
  | nil => intro ds e _; cases e; exact ⟨[], .nil, fun a h => by cases h⟩
  | @val d v F rs vs Gs A dj rr ih =>
    intro ds e n
    unfold ownsR at e
    simp only [Sim.ownR] at e
    split at e
    · cases e
    · rename_i es h
      cases e
      obtain ⟨F', o, q⟩ := ih h n
      refine ⟨F ++ F', .cons A.own o fun a ha hb => ?_, fun a ha => ?_⟩
      · rcases q a hb with ⟨G, hG, z⟩ | ⟨i, _, _, z⟩
        · exact dj G hG a ha z
        · exact A.dis i a z ha
      · rcases List.mem_append.mp ha with h | h
        · exact .inl ⟨F, List.mem_cons_self .., h⟩
        · rcases q a h with ⟨G, hG, z⟩ | z
          · exact .inl ⟨G, List.mem_cons_of_mem _ hG, z⟩
          · exact .inr z
  | @slot i v rs vs Gs hv rr ih =>
    intro ds e n
    unfold ownsR at e
    simp only [Sim.ownR] at e
    split at e
    · cases e
    · rename_i d hd
      split at e
      · cases e
      · rename_i es h
        cases e
        split at hd
        · cases hd
        · rename_i d' hd'
          split at hd
          · rename_i hp
            cases hd
            obtain ⟨v', hv', o⟩ := R.has _ _ (join_some hd')
            rw [hv] at hv'
            cases hv'
            by_cases c : pur d = true
            · rw [lks_slot, if_pos c] at n
              obtain ⟨F', o', q⟩ := ih h n
              have e0 := o.pur c
              rw [e0] at o
              refine ⟨[] ++ F', .cons o o' (fun a z => by cases z), fun a ha => ?_⟩
              rw [lks_slot, if_pos c]
              rcases q a ha with ⟨G, hG, z⟩ | z
              · exact .inl ⟨G, List.mem_cons_of_mem _ hG, z⟩
              · exact .inr z
            · rw [lks_slot, if_neg c] at n
              rw [List.map_cons, ev_nodupB, Bool.and_eq_true] at n
              obtain ⟨n1, n2⟩ := n
              simp only [Bool.not_eq_true', List.contains_eq_mem, decide_eq_false_iff_not] at n1
              obtain ⟨F', o', q⟩ := ih h n2
              refine ⟨Fs i ++ F', .cons o o' fun a ha hb => ?_, fun a ha => ?_⟩
              · rcases q a hb with ⟨G, hG, z⟩ | ⟨j, hj, _, z⟩
                · exact rr.off G hG i a ha z
                · have := R.dis i j a ha z
                  subst this
                  exact n1 hj
              · rw [lks_slot, if_neg c, List.map_cons]
                rcases List.mem_append.mp ha with z | z
                · exact .inr ⟨i, List.mem_cons_self .., hp.resolve_left c, z⟩
                · rcases q a z with ⟨G, hG, z⟩ | ⟨j, hj, z⟩
                  · exact .inl ⟨G, List.mem_cons_of_mem _ hG, z⟩
                  · exact .inr ⟨j, List.mem_cons_of_mem _ hj, z⟩
          · cases hd
end
section
variable {X : Cx} {lk : Nat → Bool} {pos p2 : Pos} {es : List Expr} {g : AL} {x1 : Nat}
theorem ss_retT (ha : SimA X es g) : SimS X lk (.Return (some (.Tuple es x1 p2)) pos) (sRetT lk g) := by
  refine ps_imp (ps_ret (pe_tupD ha)) fun D σ H z => ?_
  obtain ⟨s, Fs, fl, s', R, e, q⟩ := z
  obtain ⟨rs, s1, e1, e⟩ := bind_inv e
  refine ⟨s, Fs, rs, s1, R, e1, fun vs H1 Fs1 Gs R1 E1 k1 n1 => ?_⟩
  split at e
  · cases e
  · rename_i ds hds
    split at e
    · rename_i hc
      cases e
      obtain ⟨F, o, hF⟩ := k1.ownR R1 hds hc.2
      refine ⟨by rw [o.len]; exact Nat.le_trans hc.1 big_le, fun p ob hp hd => ?_⟩
      have sm : Same H1 (upd H1 p (.frz ob (.tup vs))) := same_new hp
      refine q _ σ _ Fs1 F (R1.same sm) (E1.trans (.same _ sm)) (.refl _ _) (.tup (SqD.of upd_same hd) (o.chg (Fa := fun _ => False) (.same sm) fun _ _ z => z)) (fun a ha => ?_) fun i a hi ha hb => ?_
      · rcases hF a ha with ⟨G, hG, z⟩ | ⟨i, _, hi, z⟩
        · exact .inl (n1 G hG a z)
        · rcases E1.new i a z with z | z
          · exact .inr ⟨i, hi, z⟩
          · exact .inl z
      · rcases hF a hb with ⟨G, hG, z⟩ | ⟨j, _, hj, z⟩
        · exact k1.off G hG i a ha z
        · have := R1.dis i j a ha z
          subst this
          rw [hi] at hj; cases hj
    · cases e
end
end Sim
namespace Sim
open PySem PySem.Spec L2
section
open PySem.Calls PySem.NumText PyProof.Rows
def tenL (n : Nat) : List Nat := 49 :: List.replicate n 48
def tenS (n : Nat) : Str := ⟨(tenL n).toArray⟩
section
variable {M : Model} {A : Around} {E : Value → Shared → Prop} {s : Shared}
/-- how many signs a numeral may have: as it was at first -/
def Dg (h : Heap) : Prop := ∃ K : PySem.W.Frag, K.In h ∧ PySem.W.nsIn K cStatics "sys.int_max_str_digits" = some none
theorem intMax_any {Q : Nat → Shared → Prop} (hn : Dg s.heap) (h : Q 4300 s) : wpAny M A Builtin.intMaxStrDigits Q E s := by
  obtain ⟨K, hK, e⟩ := hn
  unfold Builtin.intMaxStrDigits
  exact wpAny_bind ((PySem.W.looks_nsIn hK e).here (wpAny_pure h))
theorem wp_textL {Q : Value → Shared → Prop} {v : Value} {text : List Nat} {n : Int}
    (hs : ¬ (text.takeWhile (· != 0)).length ≤ 640) (hr : (int_private% "readNumeral") 4300 10 (text.takeWhile (· != 0)) = (int_private% "Numeral.value") n)
    (ha : ((text.takeWhile (· != 0)).length == text.length) = true) (hn : Dg s.heap) (h : Q (.int n s.toks) { s with toks := s.toks + 1 }) :
    wpAny M A ((int_private% "intFromText") v text 10) Q E s := by
  obtain ⟨hp, g, d, tk, os⟩ := s
  repeat (any_goals (first
    | assumption
    | (with_reducible refine wpAny_ite_false (decide_eq_false hs) ?_)
    | (with_reducible refine intMax_any hn ?_)
    | (with_reducible refine wpAny_ite_true (decide_eq_true ha) ?_)
    | wp_step))
  all_goals (try rw [hr])
  all_goals (try dsimp only)
  repeat (any_goals (first
    | assumption
    | (with_reducible refine wpAny_ite_true (decide_eq_true ha) ?_)
    | wp_step))
theorem meets_textL {x : PySem.Str} {u : Tok} {n : Int} (hl : ¬ (numSeenOf x).length ≤ 640) (hx : x.length ≤ sizeLine) (hn : PySem.intText? x = some n) : Meets (Builtin.«int.__new__» ⟨[.type "int", .str x u], []⟩) (fun _ R s => Dg s.heap ∧ R (.ok (.ret (.int n s.toks))) { s with toks := s.toks + 1 }) :=
  .of_wp fun prog w A R s h => by
    obtain ⟨hp, g, d, tk, os⟩ := s
    obtain ⟨hd, h⟩ := h
    have f1 := F.conv_sub_int
    have f2 := F.madeHere_int
    have f3 := PySem.W.KIN.str_int
    have f4 := PySem.W.KIN.str_idx
    have f5 := PySem.W.KIN.str_trunc
    have f6 : typeOf (.str x u) = pure (.type "str") := rfl
    have hr : (int_private% "readNumeral") 4300 10 (numSeenOf x) = (int_private% "Numeral.value") n ∧ ((numSeenOf x).length == (numTextOf x).length) = true := by
      rcases read4300 x hx with ⟨m, h1, h2, h3⟩ | ⟨h1, _⟩
      · rw [hn] at h1
        injection h1 with h1
        subst h1
        exact ⟨h3, h2⟩
      · rw [hn] at h1
        cases h1
    have hk := PySem.W.KIN.Hid.mk (And.intro hl hr)
    clear hl hr hn hx
    repeat (any_goals (first
      | assumption
      | ((with_reducible show wpAny _ _ ((int_private% "intFromText") _ _ _) _ _ _); refine wp_textL hk.out.1 hk.out.2.1 hk.out.2.2 hd ?_)
      | wp_step))
    all_goals first | exact ⟨_, rfl, h⟩ | skip
end
theorem ten_take (n : Nat) : (tenL n).takeWhile (· != 0) = tenL n := by
  have : ∀ l : List Nat, (∀ x ∈ l, x ≠ 0) → l.takeWhile (· != 0) = l := by
    intro l
    induction l with
    | nil => intro _; rfl
    | cons a l ih => intro h; rw [List.takeWhile_cons_of_pos (by simpa using h a (by simp)), ih fun x hx => h x (List.mem_cons_of_mem _ hx)]
  refine this _ fun x hx => ?_
  rcases List.mem_cons.mp hx with rfl | hx
  · decide
  · rw [List.eq_of_mem_replicate hx]; decide
theorem ten_text (n : Nat) : numTextOf (tenS n) = tenL n := by
  have : (tenS n).cps.all (· < 128) = true := by
    show (tenL n).toArray.all _ = true
    rw [List.all_toArray]
    refine List.all_eq_true.mpr fun x hx => ?_
    rcases List.mem_cons.mp hx with rfl | hx
    · decide
    · rw [List.eq_of_mem_replicate hx]; decide
  unfold numTextOf
  rw [if_pos this]; rfl
theorem ten_seen (n : Nat) : numSeenOf (tenS n) = tenL n := by
  unfold numSeenOf
  rw [ten_text, ten_take]
theorem ten_fold : ∀ (n : Nat) (a : Array Nat), (List.replicate n 48).foldlM (PySem.NumText.step 10) (a, true) = some (a ++ Array.replicate n 0, true)
  | 0, a => by simp
  | n + 1, a => by
    rw [List.replicate_succ, List.foldlM_cons]
    have : PySem.NumText.step 10 (a, true) 48 = some (a.push 0, true) := rfl
    rw [this]
    show (List.replicate n 48).foldlM (PySem.NumText.step 10) (a.push 0, true) = _
    rw [ten_fold n]
    congr 2
    apply Array.ext'
    simp [List.replicate_succ]
theorem ten_core (n : Nat) : core (tenL n) = tenL n := by
  unfold core
  have h1 : (tenL n).dropWhile blank = tenL n := by
    unfold tenL
    rw [List.dropWhile_cons_of_neg (by decide)]
  rw [h1]
  show ((tenL n).reverse.dropWhile blank).reverse = tenL n
  have h2 : (tenL n).reverse.dropWhile blank = (tenL n).reverse := by
    unfold tenL
    rw [List.reverse_cons, List.reverse_replicate]
    cases n with
    | zero => rfl
    | succ n => rw [List.replicate_succ, List.cons_append, List.dropWhile_cons_of_neg (by decide)]
  rw [h2, List.reverse_reverse]
theorem ten_worth : ∀ (n a : Nat), (List.replicate n 0).foldl (fun acc d => acc * 10 + d) a = a * 10 ^ n
  | 0, a => by simp
  | n + 1, a => by
    rw [List.replicate_succ, List.foldl_cons, ten_worth n, Nat.pow_succ, Nat.add_zero, Nat.mul_assoc, Nat.mul_comm 10]
@[irreducible] def tenN (n : Nat) : Int := ((10 ^ n : Nat) : Int)
theorem ten_int (n : Nat) (h : n + 1 ≤ 4300) : PySem.intText? (tenS n) = some (tenN n) := by
  unfold tenN
  have hd : PySem.NumText.digits? 10 (core (numSeenOf (tenS n))) = some (#[1] ++ Array.replicate n 0) := by
    rw [ten_seen, ten_core]
    unfold PySem.NumText.digits? tenL
    rw [List.foldlM_cons]
    have : PySem.NumText.step 10 (#[], false) 49 = some (#[1], true) := rfl
    rw [this]
    show ((List.replicate n 48).foldlM (PySem.NumText.step 10) (#[1], true)).bind _ = _
    rw [ten_fold]; rfl
  unfold PySem.intText?
  rw [ten_text, ten_seen, if_pos (by simp)]
  rw [ten_seen] at hd
  rw [hd]
  simp only []
  rw [if_pos (by simp; omega)]
  have hs : (sign ((tenL n).dropWhile blank)).1 = false := by
    unfold tenL
    rw [List.dropWhile_cons_of_neg (by decide)]; rfl
  unfold worth
  rw [hs]
  simp only [Bool.false_eq_true, if_false]
  congr 2
  rw [← Array.foldl_toList]
  simp only [Array.toList_append, Array.toList_replicate]
  show (1 :: List.replicate n 0).foldl _ 0 = _
  rw [List.foldl_cons, ten_worth]
  simp
end
def repS (a : Str) (n : Int) : Str := ⟨(List.replicate n.toNat a.cps).foldl (· ++ ·) #[]⟩
def pMulS : List D → Option D
  | [.str a, .int b] => if a.length = 1 ∧ 2 ≤ b ∧ b ≤ 100000 then some (.str (repS a b)) else none
  | _ => none
def pIntTen (n : Nat) : List D → Option D
  | [.str z] => if z = tenS n then some (.int (tenN n)) else none
  | _ => none
section
variable {X : Cx}
theorem op_mulS : OpR X (binaryOp .Mult) (fun x y H Q => ∃ a n, x = .str a ∧ y = .int n ∧ a.length = 1 ∧ 2 ≤ n ∧ n ≤ 100000 ∧ Q (.str (repS a n)) H) := by
  intro pins s σ H x y v u Q I rx ry h
  obtain ⟨a, n, rfl, rfl, ha, h1, h2, q⟩ := h
  obtain ⟨t, rfl⟩ := rx
  obtain ⟨t2, rfl⟩ := ry
  have c0 : (decide (n < -(2 ^ 63 : Int)) || decide (n ≥ 2 ^ 63)) = false := by
    rw [decide_eq_false (by omega), decide_eq_false (by omega)] <;> rfl
  have c1 : (n == 1 || a.length == 0) = false := by
    rw [ha]
    simp
    omega
  have len : ∀ (k : Nat) (acc : Array Nat), ((List.replicate k a.cps).foldl (· ++ ·) acc).size = acc.size + k := by
    intro k
    induction k with
    | zero => intro acc; rfl
    | succ k ih =>
      intro acc
      rw [List.replicate_succ, List.foldl_cons, ih, Array.size_append]
      have : a.cps.size = 1 := ha
      omega
  have hz : (repS a n).length ≤ sizeLine := by
    show ((List.replicate n.toNat a.cps).foldl (· ++ ·) #[]).size ≤ sizeLine
    rw [len, sizeLine_eq]
    simp
    omega
  refine P.mul_str c0 (fun _ _ => ?_) (fun _ _ => ?_) ?_
  · rw [ha]
    have : (1 : Int) ≤ (2 ^ 63 - 1) / n := by
      rw [Int.le_ediv_iff_mul_le (by omega)]
      omega
    omega
  · rw [ha]
    unfold Builtin.Str.tooLong
    rw [sizeLine_eq]
    exact decide_eq_false (by omega)
  · rw [if_neg (by omega), if_neg (by rw [c1]; exact Bool.false_ne_true)]
    exact ⟨hz, .str (repS a n), H, I.tok _, ⟨_, rfl⟩, q⟩
theorem pr_mulS {K : PySem.W.Frag} : PrimR K (u2 fun x y H Q => ∃ a n, x = .str a ∧ y = .int n ∧ a.length = 1 ∧ 2 ≤ n ∧ n ≤ 100000 ∧ Q (.str (repS a n)) H) pMulS := by
  intro vs ds d H Q h e q
  unfold pMulS at e
  split at e
  · obtain ⟨x, y, F, G, rfl, o1, o2⟩ := h.two
    split at e
    · rename_i hc
      cases e
      cases o1
      cases o2
      exact ⟨_, _, rfl, rfl, hc.1, hc.2.1, hc.2.2, q _ _ (.sc (.str _))⟩
    · cases e
  · cases e
open PySem.Calls PySem.NumText PyProof.Rows in
theorem call_int_ten (hd : PySem.W.nsIn X.K cStatics "sys.int_max_str_digits" = some none) (n : Nat) (h1 : 640 ≤ n) (h2 : n ≤ 4200) : CallR X (.type "int") (fun xs H Q => xs = [.str (tenS n)] ∧ Q (.int (tenN n)) H) := by
  intro pins s σ H xs us Q I rs h
  obtain ⟨rfl, q⟩ := h
  cases rs with
  | cons r1 rs =>
    cases rs
    obtain ⟨t, rfl⟩ := r1
    have e := ten_int n (by omega)
    have hl : ¬ (numSeenOf (tenS n)).length ≤ 640 := by
      rw [ten_seen]
      unfold tenL
      rw [List.length_cons, List.length_replicate]; omega
    have hx : (tenS n).length ≤ sizeLine := by
      show (tenL n).toArray.size ≤ sizeLine
      rw [List.size_toArray, sizeLine_eq]
      unfold tenL
      rw [List.length_cons, List.length_replicate]; omega
    exact call_int_1 (meets_textL hl hx e) ⟨⟨X.K, I.kIn, hd⟩, rfl, .int _, H, I.tok _, ⟨_, rfl⟩, q⟩
theorem pr_intTen {K : PySem.W.Frag} (n : Nat) : PrimR K (fun xs H Q => xs = [.str (tenS n)] ∧ Q (.int (tenN n)) H) (pIntTen n) := by
  intro vs ds d H Q h e q
  unfold pIntTen at e
  split at e
  · obtain ⟨x, F, rfl, o⟩ := h.one
    split at e
    · rename_i hc
      subst hc
      cases e
      cases o
      exact ⟨rfl, q _ _ (.sc (.int _))⟩
    · cases e
  · cases e
def oTen (n : Nat) : O := oPrim (pIntTen n) (aCons (o2 pAdd (oC (.str "1")) (o2 pMulS (oC (.str "0")) (oC (.int (n : Int))))) aNil)
theorem rep_len : ∀ (k : Nat) (acc : Array Nat), (List.replicate k (#[48] : Array Nat)).foldl (· ++ ·) acc = acc ++ (List.replicate k 48).toArray
  | 0, acc => by simp
  | k + 1, acc => by
    rw [List.replicate_succ, List.foldl_cons, rep_len k, List.replicate_succ]
    apply Array.ext'
    simp
theorem rep_eq (n : Nat) : repS ⟨#[48]⟩ n = ⟨(List.replicate n 48).toArray⟩ := by
  unfold repS
  rw [rep_len, Int.toNat_natCast]
  simp
theorem ten_eq (n : Nat) (h : n + 1 ≤ 1000000) : pAdd [.str "1", .str (repS "0" n)] = some (.str (tenS n)) := by
  have h0 : ("0" : Str) = ⟨#[48]⟩ := by decide +kernel
  have h1 : ("1" : Str) = ⟨#[49]⟩ := by decide +kernel
  rw [h0, h1, rep_eq]
  have l2 : (⟨(List.replicate n 48).toArray⟩ : Str).length = n := by
    show (List.replicate n 48).toArray.size = n
    rw [List.size_toArray, List.length_replicate]
  have l1 : (⟨#[49]⟩ : Str).length = 1 := rfl
  show (if (⟨#[49]⟩ : Str).length + (⟨(List.replicate n 48).toArray⟩ : Str).length ≤ 1000000 then some (PyData.str (_ ++ _)) else none) = _
  rw [l2, l1, if_pos (by omega)]
  refine congrArg (fun z => some (PyData.str z)) ?_
  show (⟨#[49] ++ (List.replicate n 48).toArray⟩ : Str) = ⟨(49 :: List.replicate n 48).toArray⟩
  congr 1
  apply Array.ext'
  simp
theorem ev_ten (n : Nat) (h1 : 2 ≤ n) (h2 : n ≤ 100000) (s : Sg) : oTen n s = .ok (.val (.int (tenN n))) s := by
  have h0 : ("0" : Str).length = 1 := by decide +kernel
  have m : pMulS [.str "0", .int (n : Int)] = some (.str (repS "0" n)) := by
    show (if ("0" : Str).length = 1 ∧ 2 ≤ (n : Int) ∧ (n : Int) ≤ 100000 then some (PyData.str (repS "0" n)) else none) = _
    rw [if_pos ⟨h0, by omega, by omega⟩]
  have t : pIntTen n [.str (tenS n)] = some (.int (tenN n)) := by
    show (if tenS n = tenS n then some (PyData.int (tenN n)) else none) = _
    rw [if_pos rfl]
  have t2 := ten_eq n (by omega)
  unfold oTen
  rw [ev_prim, ev_aCons, ev_o2, ev_oC, ev_ok, ev_consK, ev_aCons, ev_o2, ev_oC, ev_ok, ev_consK, ev_aCons, ev_oC, ev_ok, ev_consK, ev_aNil, ev_ok, ev_consK2, ev_ok, ev_consK2, ev_ok, ev_primK]
  rw [rds_cons, rd_val, rds_cons, rd_val, rds_nil, rdsK_some, rdsK_some, ev_primK2, m, ev_primK3, ev_ok, ev_consK, ev_aNil, ev_ok, ev_consK2, ev_ok, ev_consK2, ev_ok, ev_primK]
  rw [rds_cons, rd_val, rds_cons, rd_val, rds_nil, rdsK_some, rdsK_some, ev_primK2, t2, ev_primK3, ev_ok, ev_consK, ev_aNil, ev_ok, ev_consK2, ev_ok, ev_primK]
  rw [rds_cons, rd_val, rds_nil, rdsK_some, ev_primK2, t, ev_primK3]
end
end Sim
namespace Sim
open PySem PySem.Spec L2
section
variable {X : Cx} {K : PySem.W.Frag} {lk : Nat → Bool}
end
end Sim
namespace Sim
open PySem PySem.Spec L2
section
variable {K : PySem.W.Frag} {H : Hp}
end
section
variable {X : Cx}
end
end Sim
namespace Sim
open PySem PySem.Spec L2
open Sem (wp)
section
variable {prog : Program} {w : World} {A : Around} {E : Value → Shared → Prop} {s : Shared} {z TI TO i1 i2 : Addr} {fp1 fp2 : List Addr} {n1 n2 i : Nat} {P1 P2 : Nat → Value → Prop} {St1 St2 : Nat → Heap → Prop} {a1 a2 : Value} {f : Value} {b : Bool}
end
end Sim
namespace Sim
open PySem PySem.Spec L2
open Sem (wp)
end Sim
namespace Sim
open PySem PySem.Spec L2
open Sem (wp)
section
variable {prog : Program} {w : World} {A : Around} {E : Value → Shared → Prop} {k l : Bool} {z TI TO i1 i2 a b S : Addr} {xs ys : Array Value} {n0 : Nat}
/-- all but these stands -/
def KeepBut (fp : List Addr) (s s' : Shared) : Prop := (∀ c o, c ∉ fp → s.heap.get? c = some o → s'.heap.get? c = some o) ∧ s'.gens = s.gens ∧ s'.drawn = s.drawn ∧ s'.os = s.os
theorem KeepBut.trans {fp : List Addr} {s s' s'' : Shared} (h : KeepBut fp s s') (h' : KeepBut fp s' s'') : KeepBut fp s s'' :=
  ⟨fun c o q e => h'.1 c o q (h.1 c o q e), h'.2.1.trans h.2.1, h'.2.2.1.trans h.2.2.1, h'.2.2.2.trans h.2.2.2⟩
end
end Sim
namespace Sim
open PySem PySem.Spec L2 PySem.SeqAt
mutual
def flat : D → List Int
  | .int i => [i]
  | .tuple ds => flats ds
  | _ => []
def flats : List D → List Int
  | [] => []
  | d :: ds => flat d ++ flats ds
end
mutual
/-- of one shape, numbers within -/
def alike : D → D → Bool
  | .int _, .int _ => true
  | .tuple ds, .tuple es => alikes ds es
  | _, _ => false
def alikes : List D → List D → Bool
  | [], [] => true
  | d :: ds, e :: es => alike d e && alikes ds es
  | _, _ => false
end
mutual
/-- how deep, 0 a number -/
def deepD : D → Nat
  | .tuple ds => 1 + deepsD ds
  | _ => 0
def deepsD : List D → Nat
  | [] => 0
  | d :: ds => max (deepD d) (deepsD ds)
end
mutual
def Rn (h : Heap) : D → Value → Prop
  | .int i, v => ∃ t, v = .int i t
  | .tuple ds, v => ∃ a o xs n, v = .ref a ∧ h.get? a = some o ∧ o.cls = .type "tuple" ∧ o.data = .seq xs n ∧ Rns h ds xs.toList
  | _, _ => False
def Rns (h : Heap) : List D → List Value → Prop
  | [], [] => True
  | d :: ds, v :: vs => Rn h d v ∧ Rns h ds vs
  | _, _ => False
end
theorem Rns.len : ∀ {h : Heap} {ds : List D} {vs : List Value}, Rns h ds vs → vs.length = ds.length
  | _, [], [], _ => rfl
  | _, d :: ds, v :: vs, r => congrArg (· + 1) (Rns.len r.2)
  | _, [], _ :: _, r => r.elim
  | _, _ :: _, [], r => r.elim
/-- keeps all tuples -/
def KeepT (h h' : Heap) : Prop := ∀ b o, h.get? b = some o → o.cls = .type "tuple" → h'.get? b = some o
mutual
theorem Rn.keep {h h' : Heap} (k : KeepT h h') : ∀ {d : D} {v : Value}, Rn h d v → Rn h' d v
  | .int _, _, r => r
  | .tuple ds, _, ⟨a, o, xs, n, e, ho, hc, hd, r⟩ => ⟨a, o, xs, n, e, k a o ho hc, hc, hd, Rns.keep k r⟩
  | .none, _, r | .bool _, _, r | .str _, _, r | .list _, _, r | .dict _, _, r => r.elim
theorem Rns.keep {h h' : Heap} (k : KeepT h h') : ∀ {ds : List D} {vs : List Value}, Rns h ds vs → Rns h' ds vs
  | [], [], _ => trivial
  | _ :: _, _ :: _, r => ⟨Rn.keep k r.1, Rns.keep k r.2⟩
  | [], _ :: _, r => r.elim
  | _ :: _, [], r => r.elim
end
mutual
theorem Rn.inj {h : Heap} : ∀ {d d' : D} {v : Value}, Rn h d v → Rn h d' v → d = d'
  | .int i, d', v, ⟨t, e⟩, r' => by
    subst e
    cases d' with
    | int j => obtain ⟨u, e⟩ := r'; cases e; rfl
    | tuple es => obtain ⟨a, o, xs, n, e, _⟩ := r'; cases e
    | _ => exact r'.elim
  | .tuple ds, d', v, ⟨a, o, xs, n, e, ho, hc, hd, r⟩, r' => by
    subst e
    cases d' with
    | int j => obtain ⟨u, e⟩ := r'; cases e
    | tuple es =>
      obtain ⟨a', o', xs', n', e', ho', hc', hd', r'⟩ := r'
      cases e'
      rw [ho] at ho'
      cases ho'
      rw [hd] at hd'
      cases hd'
      rw [Rns.inj r r']
    | _ => exact r'.elim
  | .none, _, _, r, _ | .bool _, _, _, r, _ | .str _, _, _, r, _ | .list _, _, _, r, _ | .dict _, _, _, r, _ => r.elim
theorem Rns.inj {h : Heap} : ∀ {ds ds' : List D} {vs : List Value}, Rns h ds vs → Rns h ds' vs → ds = ds'
  | [], [], _, _, _ => rfl
  | d :: ds, d' :: ds', v :: vs, r, r' => by rw [Rn.inj r.1 r'.1, Rns.inj r.2 r'.2]
  | [], _ :: _, [], _, r' => r'.elim
  | [], _ :: _, _ :: _, r, _ => r.elim
  | _ :: _, [], [], r, _ => r.elim
  | _ :: _, [], _ :: _, _, r' => r'.elim
  | _ :: _, _ :: _, [], r, _ => r.elim
end
theorem Rns.at {h : Heap} : ∀ {ds : List D} {vs : List Value}, Rns h ds vs → ∀ (j : Nat) (l : j < vs.length) (l2 : j < ds.length), Rn h ds[j] vs[j]
  | d :: ds, v :: vs, r, 0, _, _ => r.1
  | d :: ds, v :: vs, r, j + 1, l, l2 => Rns.at r.2 j (by simpa using l) (by simpa using l2)
  | [], [], _, _, l, _ => absurd l (by simp)
  | [], _ :: _, r, _, _, _ => r.elim
  | _ :: _, [], r, _, _, _ => r.elim
section
variable {prog : Program} {w : World} {A : Around} {s : Shared}
end
end Sim
namespace Sim
open PySem PySem.Spec L2 PySem.SeqAt SrtO
section
variable {prog : Program} {w : World} {A : Around} {s : Shared}
end
section
variable {α : Type}
end
/-- what can be sorted so: tuples, not empty, of one shape, not deep -/
def okN : List D → Bool
  | [] => true
  | d :: ds => (match d with | .tuple (_ :: _) => true | _ => false) && decide (deepD d ≤ 8) && (d :: ds).all fun e => alike d e
section
variable {X : Cx} {pins : List (Addr × Obj)} {σ : St} {H : Hp} {s : Shared}
theorem OwnA.at1 {K : PySem.W.Frag} {H : Hp} : ∀ {ds : List D} {vs : List V}, OwnA K H ds vs [] → ∀ (us : List Value), Vals vs us → ∀ u ∈ us, ∃ d ∈ ds, ∃ v, RelV v u ∧ Own K H d v []
  | [], _, h, us, r, u, hu => by
    cases h
    cases r
    cases hu
  | d :: ds, v :: vs, h, _, r, u, hu => by
    obtain ⟨o1, o2⟩ := OwnA.nil2 h
    cases r with
    | cons r1 r2 =>
      rcases List.mem_cons.mp hu with rfl | hu
      · exact ⟨d, List.mem_cons_self .., v, r1, o1⟩
      · obtain ⟨d', m, v', r', o'⟩ := OwnA.at1 o2 _ r2 u hu
        exact ⟨d', List.mem_cons_of_mem _ m, v', r', o'⟩
open Classical in
end
end Sim
namespace Sim
open PySem PySem.Spec L2 PySem.SeqAt SrtO
section
variable {X : Cx} {pins : List (Addr × Obj)} {σ : St} {H : Hp} {s : Shared}
end
section
variable {k l : Bool} {a b : Addr} {xs ys : Array Value}
end
end Sim
namespace Sim
open PySem PySem.Spec L2 PySem.SeqAt SrtO
section
variable {prog : Program} {w : World} {A : Around} {E : Value → Shared → Prop} {s : Shared} {k l : Bool} {z TI TO i1 i2 a b : Addr} {xs ys : Array Value}
end
end Sim
namespace Sim
open PySem PySem.Spec L2 PySem.SeqAt SrtO
def seqLT : D → Option (List D)
  | .list ds => some ds
  | .tuple ds => some ds
  | _ => none
section
variable {X : Cx} {e e2 : Expr} {ta : TA} {p pos p2 pos2 : Pos}
end
end Sim
namespace Sim
open PySem PySem.Spec L2 PySem.SeqAt SrtO
section
variable {X : Cx} {e e2 : Expr} {ta : TA} {p pos p2 pos2 : Pos}
variable {g : AL}
end
end Sim
namespace Sim
open PySem PySem.Spec L2
section
variable {X : Cx}
end
end Sim
namespace Sim
open PySem PySem.Spec L2
def dd : List Int → List Int
  | [] => []
  | x :: xs => if x ∈ xs then dd xs else x :: dd xs
section
variable {X : Cx} {a : Expr} {ta : TA} {p p2 q pos : Pos}
variable {ga : AL}
end
end Sim
namespace Sim
open PySem PySem.Spec L2
section
variable {X : Cx}
end
end Sim
namespace Sim
open PySem PySem.Spec L2
structure FnOkG (P : Program) (w : World) (K : PySem.W.Frag) (mg : Str → Option Value) (base : Heap) (k : Nat) (f : Addr) (fd : FuncData) (ps : List Str) (sp : Sp) : Prop where
  len : ∀ vs H Q E, sp vs H Q E → vs.length = ps.length
  run : ∀ (A : Around) (outer : List Env) (s : Shared) (H : Hp) (args : Args) (us : List Value) (vs : List V) (Q : VK) (E : XK), A.guards = some [] → Room k A → Env0 P w K mg base A outer s H →
    BindsTo s fd args (ps.zip us) → Vals vs us → sp vs H Q E → codeAny (model P w) A (.call (.ref f) args) (CR CX0 outer P w H s Q E) s
theorem FnOkG.of {P : Program} {w : World} {K : PySem.W.Frag} {mg : Str → Option Value} {base : Heap} {k : Nat} {f : Addr} {fd : FuncData} {ps : List Str} {sp : Sp} (F : FnOk P w K mg base CX0 k f fd ps sp) : FnOkG P w K mg base k f fd ps sp :=
  ⟨F.len, fun A outer s H args us vs Q E _ hr e0 hb r h => F.run A outer s H args us vs Q E hr e0 hb r h⟩
section
variable {P : Program} {w : World} {K : PySem.W.Frag} {mg : Str → Option Value} {base : Heap}
end
section
open PyProof.Rows
end
end Sim
namespace Sim
open PySem PySem.Spec L2
section
variable {X : Cx} {K : PySem.W.Frag}
end
end Sim
namespace Sim
open PySem PySem.Spec L2
section
variable {X : Cx} {e : Expr} {x : Str} {p apos cpos : Pos} {tab : List (Int × Int)} {a : Addr}
end
end Sim
namespace Sim
open PySem PySem.Spec L2
section
variable {X : Cx}
end
end Sim
namespace Sim
open PySem PySem.Spec L2
section
variable {X : Cx} {pos : Pos}
inductive SelOk (X : Cx) (n : Nat) : List Addr → List Fn → Prop
  | nil : SelOk X n [] []
  | cons {k : Nat} {f : Addr} {fd : FuncData} {ps : List Str} {fn : Fn} {as : List Addr} {fns : List Fn} : FnOk X.prog X.w X.K X.mg X.base CX0 k f fd ps (spF X.K n fn) → Room k X.A → PySem.W.keepIn X.K (.ref f) = true → Binds X.K fd ps [] → (∀ ds r as, fn ds = .ok r as → ds.length = n) → SelOk X n as fns → SelOk X n (f :: as) (fn :: fns)
theorem SelOk.get {n : Nat} {as : List Addr} {fns : List Fn} (h : SelOk X n as fns) : ∀ {i : Nat} {fn : Fn}, fns[i]? = some fn → ∃ k f fd ps, as[i]? = some f ∧ FnOk X.prog X.w X.K X.mg X.base CX0 k f fd ps (spF X.K n fn) ∧ Room k X.A ∧ PySem.W.keepIn X.K (.ref f) = true ∧ Binds X.K fd ps [] ∧ (∀ ds r as, fn ds = .ok r as → ds.length = n) := by
  induction h with
  | nil => intro i fn e; simp at e
  | cons a b c d e _ ih =>
    intro i fn e'
    cases i with
    | zero => cases e'; exact ⟨_, _, _, _, rfl, a, b, c, d, e⟩
    | succ i => exact ih e'
end
end Sim
namespace Sim
open PySem PySem.Spec L2
section
variable {X : Cx} {k : Nat} {f : Addr} {fd : FuncData} {ps : List Str} {fn : Fn} {x : Str} {p pos : Pos}
end
end Sim
namespace Sim
open PySem PySem.Spec L2
section
variable {K : PySem.W.Frag} {H H' : Hp}
theorem OwnLs.get {K : PySem.W.Frag} {H : Hp} : ∀ {ds : List D} {vs : List V} {Fl : List (List Addr)}, OwnLs K H ds vs Fl → ∀ {i : Nat} {d : D}, ds[i]? = some d → ∃ v F, vs[i]? = some v ∧ Fl[i]? = some F ∧ Own K H d v F
  | _, _, _, .cons (v := v) (F := F) o n r, 0, d', e => by
    simp at e
    subst e
    exact ⟨v, F, rfl, rfl, o⟩
  | _, _, _, .cons o n r, i + 1, d', e => by
    obtain ⟨v, F, h1, h2, h3⟩ := r.get (i := i) (by simpa using e)
    exact ⟨v, F, by simpa using h1, by simpa using h2, h3⟩
theorem OwnLs.lenF {K : PySem.W.Frag} {H : Hp} {ds : List D} {vs : List V} {Fl : List (List Addr)} (o : OwnLs K H ds vs Fl) : Fl.length = ds.length := by
  induction o with
  | nil => rfl
  | cons _ _ _ ih => rw [List.length_cons, List.length_cons, ih]
end
section
variable {P : Program} {w : World} {K : PySem.W.Frag} {mg : Str → Option Value} {base : Heap}
end
end Sim
namespace Sim
open PySem PySem.Spec L2
section
open PyProof.Rows
variable {prog : Program} {w : World} {A : Around} {E : Value → Shared → Prop} {s : Shared}
end
section
variable {X : Cx} {a : Expr} {ga : O} {pos p2 : Pos}
end
end Sim
namespace Sim
open PySem PySem.Spec L2
section
variable {X : Cx}
end
end Sim
namespace Sim
open PySem PySem.Spec L2
section
open PySem.Calls PySem.NumText PyProof.Rows
@[irreducible] def ninN (n : Nat) : Int := ((10 ^ n : Nat) : Int) - 1
end
end Sim
namespace Sim
open PySem PySem.Spec L2
def oFrz (g : O) : O := fun s => (g s).bind fun r s1 => match r with
  | .val (.list ds) => if purs ds = true then .ok (.val (.dict [(.none, .list ds)])) s1 else .bad
  | _ => .bad
section
variable {X : Cx} {e : Expr} {ga : O}
theorem so_frz (ha : SimO X e ga) : SimO X e (oFrz ga) := by
  refine ⟨fun pins s σ H Q I z => ?_⟩
  obtain ⟨sg, Fs, rf, sg', R, e0, q⟩ := z
  obtain ⟨r, s1, e1, e2⟩ := bind_inv e0
  refine thn (ha.run pins s σ H (fun v H1 => ∃ Fs1 F, RelS X.K H1 s1 σ Fs1 ∧ Ev H Fs H1 Fs1 ∧ RfOk X.K H1 σ Fs1 r v F ∧ ∀ a, a ∈ F → H a = none) I ⟨sg, Fs, r, s1, R, e1, fun v H1 Fs1 F R1 E1 k1 n1 => ⟨Fs1, F, R1, E1, k1, n1⟩⟩) fun v s2 ⟨x, H1, I1, r1, Fs1, F, R1, E1, k1, n1⟩ => ?_
  clear e0
  split at e2
  · rename_i _ ds
    split at e2
    · rename_i hp
      cases e2
      cases k1 with
      | val A =>
        obtain ⟨a, xs, F0, rfl, rfl, hx, tt, nn⟩ := own_list A.own
        have e3 := tt.pur hp
        subst e3
        obtain ⟨od, I2⟩ := I1.lock hx trivial
        have na : H a = none := n1 a (List.mem_cons_self ..)
        have c : Chg (fun b => b = a) H1 (upd H1 a (.frz od (.lst xs))) := ⟨fun b o hb cc => by
          by_cases hba : b = a
          · subst hba
            rw [hx] at hb
            cases hb
            rcases cc with z | z
            · exact absurd rfl z
            · cases z
          · rw [upd_ne hba]; exact hb, fun b hb => by
          by_cases hba : b = a
          · subst hba
            rw [upd_same] at hb
            cases hb
          · rwa [upd_ne hba] at hb⟩
        have R2 : RelS X.K (upd H1 a (.frz od (.lst xs))) _ σ Fs1 := ⟨R1.len, fun i d ed => by
          obtain ⟨v', hv', o⟩ := R1.has i d ed
          exact ⟨v', hv', o.chg c fun b hb z => by
            subst z
            exact A.dis i b hb (List.mem_cons_self ..)⟩, R1.off, R1.dis⟩
        have E2 : Ev H Fs (upd H1 a (.frz od (.lst xs))) Fs1 := ⟨⟨fun b o hb cc => by
          have hba : b ≠ a := fun z => by rw [z, na] at hb; cases hb
          rw [upd_ne hba]
          exact E1.chg.keep b o hb cc, fun b hb => by
          by_cases hba : b = a
          · rw [hba]; exact na
          · rw [upd_ne hba] at hb
            exact E1.chg.there b hb⟩, E1.new⟩
        have o2 : OwnA X.K (upd H1 a (.frz od (.lst xs))) _ xs [] := OwnA.chg c tt (by simp)
        exact ⟨.ref a, _, I2, r1, q (.ref a) _ Fs1 [] R2 E2 (.val ⟨.frz (.inl ⟨od, upd_same ..⟩) o2, by simp⟩) (by simp)⟩
    · cases e2
  · cases e2
end
end Sim
namespace Sim
open PySem PySem.Spec L2
mutual
/-- no text within -/
def noTx : NestedKey → Bool
  | .none => true
  | .num _ => true
  | .text _ => false
  | .tup ks => noTxs ks
def noTxs : List NestedKey → Bool
  | [] => true
  | k :: ks => noTx k && noTxs ks
end
def tupN : NestedKey → Bool
  | .tup _ => true
  | _ => false
def kOk (k : NestedKey) : Bool := tupN k && noTx k && decide (k.depth ≤ 8)
theorem kOk_dp {k : NestedKey} (h : kOk k = true) : k.depth ≤ 8 := by
  unfold kOk at h
  simp only [Bool.and_eq_true, decide_eq_true_eq] at h
  exact h.2
theorem kOk_tup {k : NestedKey} (h : kOk k = true) : ∃ ks, k = .tup ks := by
  unfold kOk at h
  simp only [Bool.and_eq_true] at h
  cases k with
  | tup ks => exact ⟨ks, rfl⟩
  | _ => exact absurd h.1.1 (by simp [tupN])
abbrev NE := NestedKey × Addr × V
def getE (es : List NE) (k : NestedKey) : Option V := (es.find? fun e => decide (e.1 = k)).map fun e => e.2.2
def putE (es : List NE) (k : NestedKey) (b : Addr) (v : V) : List NE :=
  if (es.any fun e => decide (e.1 = k)) = true then es.map (fun e => if e.1 = k then (e.1, e.2.1, v) else e) else es ++ [(k, b, v)]
section
variable {X : Cx} {pins : List (Addr × Obj)} {σ : St} {H : Hp} {s : Shared}
mutual
theorem key_is (I : L2.Inv X pins σ H s) : ∀ (k : NestedKey) {v : V} {F : List Addr} {u : Value}, Own X.K H (nkD k) v F → RelV v u → NestedIs s.heap k u
  | .none, v, F, u, o, r => by
    rw [nkD] at o
    cases o
    obtain rfl : u = Value.none := r
    exact .none
  | .num i, v, F, u, o, r => by
    rw [nkD] at o
    cases o
    obtain ⟨t, rfl⟩ := (show ∃ t, u = Value.int i t from r)
    exact .int i t
  | .text x, v, F, u, o, r => by
    rw [nkD] at o
    cases o
    obtain ⟨t, rfl⟩ := (show ∃ t, u = Value.str x t from r)
    exact .text x t
  | .tup ks, v, F, u, o, r => by
    rw [nkD] at o
    cases o with
    | tup h t =>
      rename_i a xs
      obtain rfl : u = Value.ref a := r
      obtain ⟨its, rr, ⟨ob, ho, hc, n, hd⟩, _⟩ := I.tuple h.sq
      exact .tup ho hc hd (keys_are I ks t rr)
theorem keys_are (I : L2.Inv X pins σ H s) : ∀ (ks : List NestedKey) {vs : List V} {F : List Addr} {us : List Value}, OwnA X.K H (nkDs ks) vs F → Vals vs us → NestedAll s.heap ks us
  | [], vs, F, us, o, r => by
    rw [nkDs] at o
    cases o
    cases r
    exact .nil
  | k :: ks, vs, F, us, o, r => by
    rw [nkDs] at o
    cases o with
    | cons o t n =>
      cases r with
      | cons r1 r2 => exact .cons (key_is I k o r1) (keys_are I ks t r2)
end
abbrev EX : List NE → List (NestedKey × Addr × Value) → Prop := Paired fun p q => p.1 = q.1 ∧ p.2.1 = q.2.1 ∧ RelV p.2.2 q.2.2
theorem EX.fst : ∀ {es : List NE} {xs : List (NestedKey × Addr × Value)}, EX es xs → es.map (fun e => e.1) = xs.map fun x => x.1
  | _, _, .nil => rfl
  | _, _, .cons h t => by rw [List.map_cons, List.map_cons, h.1, EX.fst t]
theorem EX.get {k : NestedKey} : ∀ {es : List NE} {xs : List (NestedKey × Addr × Value)}, EX es xs → RelO (getE es k) ((atKey xs k).map (·.2))
  | _, _, .nil => True.intro
  | e :: es, x :: xs, .cons h t => by
    have ih := EX.get (k := k) t
    unfold getE atKey at ih ⊢
    rw [List.find?_cons, List.find?_cons]
    by_cases c : e.1 = k
    · have c' : x.1 = k := h.1.symm.trans c
      rw [decide_eq_true c, decide_eq_true c']
      exact h.2.2
    · have c' : ¬ x.1 = k := fun z => c (h.1.trans z)
      rw [decide_eq_false c, decide_eq_false c']
      exact ih
theorem EX.any {k : NestedKey} {es : List NE} {xs : List (NestedKey × Addr × Value)} (h : EX es xs) : (es.any fun e => decide (e.1 = k)) = (atKey xs k).isSome := by
  induction h with
  | nil => rfl
  | @cons e x es xs h t ih =>
    unfold atKey at ih ⊢
    rw [List.any_cons, List.find?_cons, ih]
    by_cases c : e.1 = k
    · have c' : x.1 = k := h.1.symm.trans c
      rw [decide_eq_true c, decide_eq_true c']; rfl
    · have c' : ¬ x.1 = k := fun z => c (h.1.trans z)
      rw [decide_eq_false c, decide_eq_false c']; rfl
theorem EX.put {k : NestedKey} {b : Addr} {v : V} {u : Value} (r : RelV v u) {es : List NE} {xs : List (NestedKey × Addr × Value)} (h : EX es xs) : EX (putE es k b v) (storedH xs k b u) := by
  unfold putE storedH
  rw [h.any]
  split
  · rename_i hc0
    clear hc0
    induction h with
    | nil => exact .nil
    | @cons e x es xs h t ih =>
      rw [List.map_cons, List.map_cons]
      refine .cons ?_ ih
      unfold putAt
      by_cases c : e.1 = k
      · rw [if_pos c, if_pos (h.1.symm.trans c)]; exact ⟨h.1, h.2.1, r⟩
      · rw [if_neg c, if_neg (fun z => c (h.1.trans z))]; exact h
  · exact Paired.snoc h ⟨rfl, rfl, r⟩
theorem EX.mem : ∀ {es : List NE} {xs : List (NestedKey × Addr × Value)}, EX es xs → ∀ x, x ∈ xs → ∃ e, e ∈ es ∧ e.1 = x.1 ∧ e.2.1 = x.2.1
  | _, _, .nil, x, h => by cases h
  | p :: es, q :: xs, .cons hh t, x, hx => by
    rcases List.mem_cons.mp hx with rfl | hx
    · exact ⟨p, List.mem_cons_self .., hh.1, hh.2.1⟩
    · obtain ⟨e, h1, h2⟩ := EX.mem t x hx
      exact ⟨e, List.mem_cons_of_mem _ h1, h2⟩
end
end Sim
namespace Sim
open PySem PySem.Spec L2
/-- the value y is the key k -/
structure KeyN (K : PySem.W.Frag) (H : Hp) (k : NestedKey) (y : V) : Prop where
  own : Own K H (nkD k) y []
  ok : kOk k = true
theorem KeyN.ref {K : PySem.W.Frag} {H : Hp} {k : NestedKey} {y : V} (h : KeyN K H k y) : ∃ b, y = .ref b := by
  obtain ⟨o, ok⟩ := h
  obtain ⟨ks, rfl⟩ := kOk_tup ok
  rw [nkD] at o
  cases o with
  | tup _ _ => exact ⟨_, rfl⟩
section
variable {X : Cx} {pins : List (Addr × Obj)} {σ : St} {H : Hp} {s : Shared}
theorem KeyN.is {k : NestedKey} {b : Addr} (I : L2.Inv X pins σ H s) (h : KeyN X.K H k (.ref b)) : (nestedKind X.prog X.w).is s.heap k b := ⟨key_is I k h.own rfl, kOk_dp h.ok⟩
variable {o e : Expr} {es : List Expr} {to : TE} {t : TA} {name : Str} {apos cpos : Pos} {id : String} {r : V → List V → Hp → VK → Prop}
end
end Sim
namespace SimSrt
open PySem PyProof.Rows Srt SrtO
section
variable {prog : Program} {w : World} {A : Around} {E : Value → Shared → Prop} {s : Shared}
end
end SimSrt
namespace Sim
open PySem PySem.Spec L2
open PyProof.Rows hiding St
section
variable {X : Cx} {pins : List (Addr × Obj)} {σ : St} {H : Hp} {s : Shared}
end
end Sim
namespace Sim
open PySem PySem.Spec L2
open PyProof.Rows hiding St
section
variable {prog : Program} {w : World} {A : Around} {E : Value → Shared → Prop} {s : Shared}
end
section
variable {X : Cx} {pins : List (Addr × Obj)} {σ : St} {H : Hp} {s : Shared}
end
section
variable {P : Program} {w : World} {K : PySem.W.Frag} {tg : Expr} {d : Addr} {o : Obj} {ents : Array DictEntry} {ep : Nat}
end
section
variable {X : Cx} {tg e : Expr} {td : TE} {apos cpos : Pos}
end
end Sim
namespace Sim
open PySem PySem.Spec L2
section
variable {K : PySem.W.Frag}
end
section
variable {X : Cx} {a b : Expr} {ga gb : O} {pos : Pos}
end
section
variable {X : Cx} {K : PySem.W.Frag} {σ : St} {H : Hp} {Q : VK}
end
end Sim
namespace Sim
open PySem PySem.Spec L2
section
variable {K : PySem.W.Frag} {H H' : Hp} {s : Sg} {σ : St} {Fs : Fp}
end
section
variable {K : PySem.W.Frag} {H H' : Hp}
theorem KeyN.chg {Fa : Addr → Prop} (c : Chg Fa H H') {k : NestedKey} {y : V} (h : KeyN K H k y) : KeyN K H' k y := ⟨h.own.chg c (fun _ z => by cases z), h.ok⟩
end
section
variable {X : Cx} {lk : Nat → Bool} {pos : Pos} {ga gb : O} {e : Expr}
end
section
variable {X : Cx} {K : PySem.W.Frag} {σ : St} {H : Hp} {Q : VK}
end
end Sim
namespace Sim
open PySem PySem.Spec L2
section
variable {X : Cx} {K : PySem.W.Frag}
variable {tg e : Expr} {ga : O}
end
end Sim
namespace SimMin
open PySem PySem.Spec PySem.W
section
variable {prog : Program} {w : World} {A : Around} {E : Value → Shared → Prop} {s : Shared}
end
end SimMin
namespace Sim
open PySem PySem.Spec L2
section
variable {X : Cx}
end
end Sim
namespace Sim
open PySem PySem.Spec L2
section
variable {K : PySem.W.Frag} {H : Hp}
end
section
variable {X : Cx} {a b : Expr} {ga gb : O} {pos : Pos}
end
section
variable {K : PySem.W.Frag} {H : Hp}
end
end Sim
namespace Sim
open PySem PySem.Spec L2
section
variable {K : PySem.W.Frag} {H : Hp} {X : Cx}
end
section
variable {X : Cx} {lk : Nat → Bool} {pos : Pos} {ga gb : O} {e : Expr}
end
section
variable {X : Cx} {K : PySem.W.Frag} {σ : St} {H : Hp} {Q : VK}
end
end Sim
namespace Sim
open PySem PySem.Spec L2
section
variable {K : PySem.W.Frag}
end
section
variable {X : Cx} {e : Expr} {ga : O}
end
end Sim
namespace Sim
open PySem PySem.Spec L2
def oLstF (i : Nat) (g : AL) : O := fun s => (aCons (oV i) g s).bind fun rs s1 => match rs with
  | .slot _ :: rs => (match (s1[i]?).join, owns rs s1 with
    | some (.list ds), some es => if purs ds = true ∧ purs es = true ∧ es.length < 1000000 then .ok (.val (.list (.dict [(.none, .list ds)] :: es))) (s1.set i (some (.dict [(.none, .list ds)]))) else .bad
    | _, _ => .bad)
  | _ => .bad
theorem RelS.wrG {K : PySem.W.Frag} {H H' : Hp} {s : Sg} {σ : St} {Fs : Fp} (R : RelS K H s σ Fs) {i : Nat} {d d' : D} {v : V} {a : Addr} (e : s[i]? = some (some d)) (ev : σ[i]? = some (some v)) (ha : a ∈ Fs i) (chg : Chg (fun b => b = a) H H')
    (o : Own K H' d' v []) : RelS K H' (s.set i (some d')) σ (upF Fs i []) := by
  have hi : i < s.length := by
    rcases Nat.lt_or_ge i s.length with h | h
    · exact h
    · rw [List.getElem?_eq_none h] at e; cases e
  refine ⟨by rw [List.length_set, R.len], fun j d' e' => ?_, fun j h => ?_, fun j k b h1 h2 => ?_⟩
  · by_cases hj : j = i
    · subst hj
      rw [List.getElem?_set_self hi] at e'
      cases e'
      refine ⟨_, ev, ?_⟩
      unfold upF
      rw [if_pos rfl]
      exact o
    · rw [List.getElem?_set_ne (Ne.symm hj)] at e'
      obtain ⟨v', hv', o'⟩ := R.has j d' e'
      refine ⟨v', hv', ?_⟩
      unfold upF
      rw [if_neg hj]
      exact o'.chg chg fun b hb w => hj (R.dis j i a (by rw [← w]; exact hb) ha)
  · unfold upF
    by_cases hj : j = i
    · subst hj
      exact absurd (List.getElem?_set_self hi) (h _)
    · rw [if_neg hj]
      exact R.off j fun d' e => h d' (by rw [List.getElem?_set_ne (Ne.symm hj)]; exact e)
  · unfold upF at h1 h2
    by_cases hj : j = i
    · rw [if_pos hj] at h1; cases h1
    · by_cases hk : k = i
      · rw [if_pos hk] at h2; cases h2
      · rw [if_neg hj] at h1
        rw [if_neg hk] at h2
        exact R.dis j k b h1 h2
section
variable {X : Cx} {x : Str} {p pos : Pos} {es : List Expr} {ga : AL} {i : Nat}
theorem so_lstF (hv : PE X (.Name x p) (tVar i)) (ha : SimA X es ga) (hs : starEach (.Name x p :: es) X.env = (false, eval (.Name x p) X.env) :: starEach es X.env := by rfl) : SimO X (.List (.Name x p :: es) pos) (oLstF i ga) := by
  have hL : PE X (.List (.Name x p :: es) pos) (tLst (tA X.K (aCons (oV i) ga))) := pe_lst (sa_cons (so_var hv) ha)
  refine ⟨fun pins s σ H Q I z => ?_⟩
  obtain ⟨sg, Fs, rf, sg', R, e0, q⟩ := z
  obtain ⟨rs0, s1, e1, e2⟩ := bind_inv e0
  have e1' := e1
  obtain ⟨r0, s0, e3, e4⟩ := bind_inv e1'
  obtain ⟨rs1, s2, e5, e6⟩ := bind_inv e4
  cases e6
  unfold oV at e3
  split at e3
  · rename_i d0 hd0
    cases e3
    refine thn (hL.run pins s σ H (fun v H2 => ∃ vs H1 q1 Fs1 Gs, v = .ref q1 ∧ H2 = upd H1 q1 (.lst vs) ∧ H1 q1 = none ∧ RelS X.K H1 s1 σ Fs1 ∧ Ev H Fs H1 Fs1 ∧ Rfs X.K H1 σ Fs1 (.slot i :: rs1) vs Gs ∧ (∀ G, G ∈ Gs → ∀ a, a ∈ G → H a = none)) I
      ⟨sg, Fs, _, s1, R, e1, fun vs H1 Fs1 Gs R1 E1 k1 n1 => ⟨?_, fun q1 hq1 => ⟨vs, H1, q1, Fs1, Gs, rfl, rfl, hq1, R1, E1, k1, n1⟩⟩⟩) fun v s2 ⟨xv, H2, I2, rv, vs, H1, q1, Fs1, Gs, ev, eH, hq1, R1, E1, k1, n1⟩ => ?_
    all_goals clear e0 e1 e4 e5
    all_goals (
      dsimp only at e2
      split at e2
      · rename_i ds es' hds hes
        split at e2
        · rename_i hp
          cases k1 with
          | @slot _ va _ vs2 Gs2 hva k1 =>
            obtain ⟨oe, dj⟩ := k1.own R1 hes
            obtain ⟨vi, hvi, oi⟩ := R1.has i _ (join_some hds)
            rw [hva] at hvi
            cases hvi
            obtain ⟨a, xs, F0, hae, hFa, hx, tt, nn⟩ := own_list oi
            have e3 := tt.pur hp.1
            subst e3
            have e4 := oe.pur hp.2.1
            first
            | (have := oe.len
               have h15 := hp.2.2
               show (va :: vs2).length ≤ sizeLine
               have := big_le
               simp only [List.length_cons]
               omega)
            | (cases e2
               subst hae ev eH
               have hq1a : q1 ≠ a := fun z => by rw [z, hx] at hq1; cases hq1
               have hx2 : upd H1 q1 (.lst (V.ref a :: vs2)) a = some (.lst xs) := by rw [upd_ne (Ne.symm hq1a)]; exact hx
               obtain ⟨od, I3⟩ := I2.lock hx2 trivial
               have sm : Same H1 (upd H1 q1 (.lst (V.ref a :: vs2))) := same_new hq1
               have c : Chg (fun b => b = a) H1 (upd (upd H1 q1 (.lst (V.ref a :: vs2))) a (.frz od (.lst xs))) := ⟨fun b o hb cc => by
                 by_cases hba : b = a
                 · subst hba
                   rw [hx] at hb
                   cases hb
                   rcases cc with z | z
                   · exact absurd rfl z
                   · cases z
                 · rw [upd_ne hba]
                   have hbq : b ≠ q1 := fun z => by rw [z, hq1] at hb; cases hb
                   rw [upd_ne hbq]; exact hb, fun b hb => by
                 by_cases hba : b = a
                 · subst hba
                   rw [upd_same] at hb
                   cases hb
                 · rw [upd_ne hba] at hb
                   by_cases hbq : b = q1
                   · rw [hbq]; exact hq1
                   · rwa [upd_ne hbq] at hb⟩
               have ai : a ∈ Fs1 i := by rw [hFa]; exact List.mem_cons_self ..
               have of : Own X.K (upd (upd H1 q1 (.lst (V.ref a :: vs2))) a (.frz od (.lst xs))) (.dict [(.none, .list ds)]) (.ref a) [] := .frz (.inl ⟨od, upd_same ..⟩) (OwnA.chg c tt (by simp))
               have oe3 : OwnA X.K (upd (upd H1 q1 (.lst (V.ref a :: vs2))) a (.frz od (.lst xs))) es' vs2 [] := by
                 have := oe
                 rw [e4] at this
                 exact this.chg c (by simp)
               have R3 := R1.wrG (join_some hds) hva ai c of
               have c' : Chg (InF Fs1) H1 (upd (upd H1 q1 (.lst (V.ref a :: vs2))) a (.frz od (.lst xs))) := ⟨fun b ob e cc => c.keep b ob e (cc.imp (fun z w => z ⟨i, by rw [w]; exact ai⟩) id), c.there⟩
               have E3 : Ev H Fs (upd (upd H1 q1 (.lst (V.ref a :: vs2))) a (.frz od (.lst xs))) (upF Fs1 i []) := E1.trans ⟨c', fun j b hb => by
                 unfold upF at hb
                 split at hb
                 · cases hb
                 · exact .inl hb⟩
               have hq3 : upd (upd H1 q1 (.lst (V.ref a :: vs2))) a (.frz od (.lst xs)) q1 = some (.lst (V.ref a :: vs2)) := by rw [upd_ne hq1a, upd_same]
               have on : Own X.K (upd (upd H1 q1 (.lst (V.ref a :: vs2))) a (.frz od (.lst xs))) (.list (.dict [(.none, .list ds)] :: es')) (.ref q1) (q1 :: ([] ++ [])) := .lst hq3 (.cons of oe3 (by simp)) (by simp)
               refine ⟨.ref q1, _, I3, rv, q (.ref q1) _ _ _ R3 E3 (.val ⟨on, fun j b hb hm => ?_⟩) fun b hb => ?_⟩
               · have : b = q1 := by simpa using hm
                 subst this
                 unfold upF at hb
                 split at hb
                 · cases hb
                 · obtain ⟨mo, hm2⟩ := R1.mem hb
                   rw [hq1] at hm2; cases hm2
               · have : b = q1 := by simpa using hb
                 subst this
                 exact E1.chg.there _ hq1)
        · cases e2
      · cases e2)
  · cases e3
end
end Sim
namespace Sim
open PySem PySem.Spec L2
abbrev Pt := List (Option D)
def gtP : Pt → Nat → Option D
  | [], _ => none
  | o :: _, 0 => o
  | _ :: p, n + 1 => gtP p n
def stP : Pt → Nat → Option D → Pt
  | [], _, _ => []
  | _ :: p, 0, o => o :: p
  | q :: p, n + 1, o => q :: stP p n o
structure Mt (p : Pt) (s : Sg) : Prop where
  len : p.length = s.length
  has : ∀ i d, gtP p i = some d → s[i]? = some (some d)
structure Wk (q p : Pt) : Prop where
  len : q.length = p.length
  has : ∀ i d, gtP q i = some d → gtP p i = some d
theorem stP_len : ∀ (p : Pt) (i : Nat) (o : Option D), (stP p i o).length = p.length
  | [], _, _ => rfl
  | _ :: _, 0, _ => rfl
  | _ :: p, i + 1, o => congrArg (· + 1) (stP_len p i o)
theorem gtP_stP : ∀ (p : Pt) (i j : Nat) (o : Option D), gtP (stP p i o) j = if i = j ∧ i < p.length then o else gtP p j
  | [], i, j, o => by rw [if_neg (by simp)]; rfl
  | a :: p, 0, 0, o => by simp [stP, gtP]
  | a :: p, 0, j + 1, o => by simp [stP, gtP]
  | a :: p, i + 1, 0, o => by simp [stP, gtP]
  | a :: p, i + 1, j + 1, o => by
    show gtP (stP p i o) j = _
    rw [gtP_stP p i j o]
    simp [gtP]
theorem Mt.get {p : Pt} {s : Sg} (h : Mt p s) {i : Nat} {d : D} (e : gtP p i = some d) : (s[i]?).join = some d := by rw [h.has i d e]; rfl
theorem Mt.put {p : Pt} {s : Sg} (h : Mt p s) (i : Nat) (d : D) : Mt (stP p i (some d)) (s.set i (some d)) := by
  refine ⟨by rw [stP_len, List.length_set, h.len], fun j e hj => ?_⟩
  rw [gtP_stP] at hj
  rw [List.getElem?_set]
  by_cases c : i = j
  · subst c
    by_cases c2 : i < p.length
    · rw [if_pos ⟨rfl, c2⟩] at hj
      rw [if_pos rfl, if_pos (by rw [← h.len]; exact c2), hj]
    · rw [if_neg (by simp [c2])] at hj
      have := h.has i e hj
      rw [List.getElem?_eq_none (by rw [← h.len]; omega)] at this
      cases this
  · rw [if_neg (by simp [c])] at hj
    rw [if_neg c]
    exact h.has j e hj
theorem Mt.off {p : Pt} {s : Sg} (h : Mt p s) (i : Nat) (o : Option D) : Mt (stP p i none) (s.set i o) := by
  refine ⟨by rw [stP_len, List.length_set, h.len], fun j e hj => ?_⟩
  rw [gtP_stP] at hj
  rw [List.getElem?_set]
  by_cases c : i = j
  · subst c
    by_cases c2 : i < p.length
    · rw [if_pos ⟨rfl, c2⟩] at hj; cases hj
    · rw [if_neg (by simp [c2])] at hj
      have := h.has i e hj
      rw [List.getElem?_eq_none (by rw [← h.len]; omega)] at this
      cases this
  · rw [if_neg (by simp [c])] at hj
    rw [if_neg c]
    exact h.has j e hj
theorem Mt.wk {q p : Pt} {s : Sg} (h : Mt p s) (w : Wk q p) : Mt q s := ⟨w.len.trans h.len, fun i d e => h.has i d (w.has i d e)⟩
theorem Mt.refl (s : Sg) : Mt s s := by
  refine ⟨rfl, fun i d e => ?_⟩
  induction s generalizing i with
  | nil => cases e
  | cons o s ih =>
    cases i with
    | zero => have e : o = some d := e; rw [e]; rfl
    | succ i => rw [List.getElem?_cons_succ]; exact ih i e
theorem wk_nil : Wk [] [] := ⟨rfl, fun _ _ e => by cases e⟩
theorem wk_a {q p : Pt} {o : Option D} (h : Wk q p) : Wk (none :: q) (o :: p) := ⟨congrArg (· + 1) h.len, fun i d e => by
  cases i with
  | zero => cases e
  | succ i => exact h.has i d e⟩
theorem wk_s {q p : Pt} {o : Option D} (h : Wk q p) : Wk (o :: q) (o :: p) := ⟨congrArg (· + 1) h.len, fun i d e => by
  cases i with
  | zero => exact e
  | succ i => exact h.has i d e⟩
theorem Wk.refl (p : Pt) : Wk p p := ⟨rfl, fun _ _ e => e⟩
abbrev eI : Int → D := PyData.int
abbrev eB : Bool → D := PyData.bool
def eL {α : Type} (e : α → D) (xs : List α) : D := .list (xs.map e)
def eT {α : Type} (e : α → D) (xs : List α) : D := .tuple (xs.map e)
def eZ (xs : List Int) : D := .dict [(.none, .list (xs.map .int))]
def eP {α β : Type} (a : α → D) (b : β → D) (x : α × β) : D := .tuple [a x.1, b x.2]
def eQ {α β γ : Type} (a : α → D) (b : β → D) (c : γ → D) (x : α × β × γ) : D := .tuple [a x.1, b x.2.1, c x.2.2]
/-- nothing in it changes -/
def Pu {α : Type} (e : α → D) : Prop := ∀ x, pur (e x) = true
theorem puI : Pu eI := fun _ => rfl
theorem puZ : Pu eZ := fun xs => pur_frz _
theorem purs_pu {α : Type} {e : α → D} (h : Pu e) : ∀ xs : List α, purs (xs.map e) = true
  | [] => rfl
  | x :: xs => by rw [List.map_cons, purs_cons, h x, purs_pu h xs]; rfl
theorem puT {α : Type} {e : α → D} (h : Pu e) : Pu (eT e) := fun xs => by rw [eT, pur_tuple, purs_pu h]
theorem puP {α β : Type} {a : α → D} {b : β → D} (h : Pu a) (h2 : Pu b) : Pu (eP a b) := fun x => by rw [eP, pur_tuple, purs_cons, purs_cons, h, h2]; rfl
theorem puQ {α β γ : Type} {a : α → D} {b : β → D} {c : γ → D} (h : Pu a) (h2 : Pu b) (h3 : Pu c) : Pu (eQ a b c) := fun x => by rw [eQ, pur_tuple, purs_cons, purs_cons, purs_cons, h, h2, h3]; rfl
def Rd (vl : Bool) (p : Pt) (r : Rf) (d : D) : Prop := r = .val d ∨ (vl = false ∧ ∃ i, r = .slot i ∧ gtP p i = some d)
section
variable {α β δ γ : Type}
theorem Rd.rd {vl : Bool} {p : Pt} {r : Rf} {d : D} {s : Sg} (h : Rd vl p r d) (m : Mt p s) : rd r s = some d := by
  rcases h with rfl | ⟨_, i, rfl, e⟩
  · rfl
  · exact m.get e
theorem Rd.own {vl : Bool} {p : Pt} {r : Rf} {d : D} {s : Sg} (h : Rd vl p r d) (m : Mt p s) (c : vl = true ∨ pur d = true) : own r s = some d := by
  rcases h with rfl | ⟨e0, i, rfl, e⟩
  · rfl
  · rcases c with c | c
    · rw [e0] at c; cases c
    · rw [own_slot, m.get e, ownK_some, if_pos c]
def X (vl : Bool) (p : Pt) (g : O) (v : α → D) (q : α → Pt) (F : (α → Option γ) → Option γ) : Prop :=
  ∀ k z, F k = some z → ∃ x, k x = some z ∧ ∀ s, Mt p s → ∃ r s', g s = .ok r s' ∧ Mt (q x) s' ∧ Rd vl (q x) r (v x)
theorem x_var {p : Pt} (i : Nat) {d : D} (h : gtP p i = some d) : X (γ := γ) false p (oV i) (fun _ : Unit => d) (fun _ => p) (fun k => k ()) :=
  fun k z e => ⟨(), e, fun s m => ⟨.slot i, s, by rw [ev_oV, m.get h, ev_oVK], m, .inr ⟨rfl, i, rfl, h⟩⟩⟩
theorem x_c {p : Pt} (d : D) : X (γ := γ) true p (oC d) (fun _ : Unit => d) (fun _ => p) (fun k => k ()) :=
  fun k z e => ⟨(), e, fun s m => ⟨.val d, s, rfl, m, .inl rfl⟩⟩
/-- told otherwise: the same value by another name -/
theorem X.as {p : Pt} {g : O} {v : α → D} {q : α → Pt} {F : (α → Option γ) → Option γ} {vl : Bool} (h : X vl p g v q F) (v' : α → D) (e : v = v') : X vl p g v' q F := e ▸ h
inductive AK where
  | v | s (i : Nat)
def Rk (p : Pt) : List AK → List Rf → List D → Prop
  | [], [], [] => True
  | .v :: ks, r :: rs, d :: ds => (Rd false p r d ∧ (r = .val d ∨ pur d = true)) ∧ Rk p ks rs ds
  | .s i :: ks, r :: rs, d :: ds => (r = .slot i ∧ gtP p i = some d ∧ pur d = false) ∧ Rk p ks rs ds
  | _, _, _ => False
theorem Rk.rds {p : Pt} {s : Sg} (m : Mt p s) : ∀ {ks : List AK} {rs : List Rf} {ds : List D}, Rk p ks rs ds → rds rs s = some ds
  | [], [], [], _ => rfl
  | .v :: ks, r :: rs, d :: ds, h => by rw [rds_cons, h.1.1.rd m, Rk.rds m h.2]; rfl
  | .s i :: ks, r :: rs, d :: ds, h => by rw [rds_cons, h.1.1, rd_slot, m.get h.1.2.1, Rk.rds m h.2]; rfl
theorem Rk.owns {p : Pt} {s : Sg} (m : Mt p s) : ∀ {ks : List AK} {rs : List Rf} {ds : List D}, Rk p ks rs ds → (∀ k ∈ ks, k = .v) → owns rs s = some ds
  | [], [], [], _, _ => rfl
  | .v :: ks, r :: rs, d :: ds, h, a => by
    have o : own r s = some d := by
      rcases h.1.2 with z | z
      · rw [z]; rfl
      · exact h.1.1.own m (.inr z)
    rw [owns_cons, o, Rk.owns m h.2 fun k hk => a k (List.mem_cons_of_mem _ hk)]; rfl
  | .s i :: ks, r :: rs, d :: ds, h, a => by have := a _ (List.mem_cons_self ..); cases this
def kl : List AK → List D → List (Nat × D)
  | .s i :: ks, d :: ds => (i, d) :: kl ks ds
  | .v :: ks, _ :: ds => kl ks ds
  | _, _ => []
theorem Rk.lks {p : Pt} : ∀ {ks : List AK} {rs : List Rf} {ds : List D}, Rk p ks rs ds → lks rs ds = kl ks ds
  | [], [], [], _ => rfl
  | .v :: ks, r :: rs, d :: ds, h => by
    cases r with
    | val x => rw [lks_val, Rk.lks h.2]; rfl
    | slot i =>
      rcases h.1.2 with z | z
      · cases z
      · rw [lks_slot, if_pos z, Rk.lks h.2]; rfl
  | .s i :: ks, r :: rs, d :: ds, h => by
    rw [h.1.1, lks_slot, if_neg (by rw [h.1.2.2]; simp), Rk.lks h.2]; rfl
theorem Rk.lkz {p : Pt} : ∀ {ks : List AK} {rs : List Rf} {ds as : List D}, Rk p ks rs ds → as.length = ds.length → lkz rs ds as = kl ks as
  | [], [], [], [], _, _ => rfl
  | .v :: ks, r :: rs, d :: ds, a :: as, h, l => by
    have l : as.length = ds.length := by simpa using l
    cases r with
    | val x => rw [lkz_val, Rk.lkz h.2 l]; rfl
    | slot i =>
      rcases h.1.2 with z | z
      · cases z
      · rw [lkz_slot, if_pos z, Rk.lkz h.2 l]; rfl
  | .s i :: ks, r :: rs, d :: ds, a :: as, h, l => by
    have l : as.length = ds.length := by simpa using l
    rw [h.1.1, lkz_slot, if_neg (by rw [h.1.2.2]; simp), Rk.lkz h.2 l]; rfl
def AK.isV : AK → Bool
  | .v => true
  | .s _ => false
theorem kv {ks : List AK} (h : ks.all AK.isV = true) : ∀ k ∈ ks, k = .v := fun k hk => by
  have := List.all_eq_true.mp h k hk
  cases k with
  | v => rfl
  | s i => cases this
theorem Rk.len {p : Pt} : ∀ {ks : List AK} {rs : List Rf} {ds : List D}, Rk p ks rs ds → ds.length = ks.length
  | [], [], [], _ => rfl
  | .v :: ks, r :: rs, d :: ds, h => congrArg (· + 1) (Rk.len h.2)
  | .s i :: ks, r :: rs, d :: ds, h => congrArg (· + 1) (Rk.len h.2)
def XA (p : Pt) (gs : AL) (ks : List AK) (vs : α → List D) (q : α → Pt) (F : (α → Option γ) → Option γ) : Prop :=
  ∀ k z, F k = some z → ∃ x, k x = some z ∧ ∀ s, Mt p s → ∃ rs s', gs s = .ok rs s' ∧ Mt (q x) s' ∧ Rk (q x) ks rs (vs x)
theorem xa_nil {p : Pt} : XA (γ := γ) p aNil [] (fun _ : Unit => []) (fun _ => p) (fun k => k ()) :=
  fun k z e => ⟨(), e, fun s m => ⟨[], s, rfl, m, trivial⟩⟩
section
variable {p : Pt} {g : O} {gs : AL} {v : α → D} {q : α → Pt} {F : (α → Option γ) → Option γ} {vl : Bool}
  {ks : List AK} {vs : α → β → List D} {q2 : α → β → Pt} {F2 : α → (β → Option γ) → Option γ}
/-- a value ahead of more -/
theorem xa_v (h : X true p g v q F) (h2 : ∀ x, XA (q x) gs ks (vs x) (q2 x) (F2 x)) :
    XA p (aCons g gs) (.v :: ks) (fun w : α × β => v w.1 :: vs w.1 w.2) (fun w => q2 w.1 w.2) (fun k => F fun x => F2 x fun y => k (x, y)) := fun k z e => by
  obtain ⟨x, e1, h⟩ := h _ z e
  obtain ⟨y, e2, h2⟩ := h2 x _ z e1
  refine ⟨(x, y), e2, fun s m => ?_⟩
  obtain ⟨r, s1, a1, a2, a3⟩ := h s m
  obtain ⟨rs, s2, b1, b2, b3⟩ := h2 s1 a2
  have a3 : r = .val (v x) := by
    rcases a3 with a3 | ⟨a3, _⟩
    · exact a3
    · cases a3
  refine ⟨r :: rs, s2, by rw [ev_aCons, a1, ev_ok, ev_consK, b1, ev_ok, ev_consK2], b2, ⟨.inl a3, .inl a3⟩, b3⟩
/-- what never changes, ahead of what changes nothing -/
theorem xa_p {vs : α → β → List D} (h : X vl p g v q F) (hp : ∀ x, pur (v x) = true) (h2 : ∀ x, XA (q x) gs ks (vs x) (fun _ => q x) (F2 x)) :
    XA p (aCons g gs) (.v :: ks) (fun w : α × β => v w.1 :: vs w.1 w.2) (fun w => q w.1) (fun k => F fun x => F2 x fun y => k (x, y)) := fun k z e => by
  obtain ⟨x, e1, h⟩ := h _ z e
  obtain ⟨y, e2, h2⟩ := h2 x _ z e1
  refine ⟨(x, y), e2, fun s m => ?_⟩
  obtain ⟨r, s1, a1, a2, a3⟩ := h s m
  obtain ⟨rs, s2, b1, b2, b3⟩ := h2 s1 a2
  exact ⟨r :: rs, s2, by rw [ev_aCons, a1, ev_ok, ev_consK, b1, ev_ok, ev_consK2], b2, ⟨a3.imp id fun z => ⟨rfl, z.2⟩, .inr (hp x)⟩, b3⟩
/-- a name that keeps what never changes, ahead of anything -/
theorem xa_n {vs : β → List D} {q2 : β → Pt} {F2 : (β → Option γ) → Option γ} (i : Nat) {d : D} (h0 : gtP p i = some d) (h2 : XA p gs ks vs q2 F2) (h1 : ∀ y, gtP (q2 y) i = some d) (hp : pur d = true) :
    XA p (aCons (oV i) gs) (.v :: ks) (fun w : β => d :: vs w) (fun w => q2 w) F2 := fun k z e => by
  obtain ⟨y, e2, h2⟩ := h2 _ z e
  refine ⟨y, e2, fun s m => ?_⟩
  obtain ⟨rs, s2, b1, b2, b3⟩ := h2 s m
  exact ⟨.slot i :: rs, s2, by rw [ev_aCons, ev_oV, m.get h0, ev_oVK, ev_ok, ev_consK, b1, ev_ok, ev_consK2], b2, ⟨.inr ⟨rfl, i, rfl, h1 y⟩, .inr hp⟩, b3⟩
/-- a name of a list -/
theorem xa_s {vs : β → List D} {q2 : β → Pt} {F2 : (β → Option γ) → Option γ} {d : β → D} {d0 : D} (i : Nat) (h0 : gtP p i = some d0) (h2 : XA p gs ks vs q2 F2) (h1 : ∀ y, gtP (q2 y) i = some (d y)) (hp : ∀ y, pur (d y) = false) :
    XA p (aCons (oV i) gs) (.s i :: ks) (fun w : β => d w :: vs w) (fun w => q2 w) F2 := fun k z e => by
  obtain ⟨y, e2, h2⟩ := h2 _ z e
  refine ⟨y, e2, fun s m => ?_⟩
  obtain ⟨rs, s2, b1, b2, b3⟩ := h2 s m
  exact ⟨.slot i :: rs, s2, by rw [ev_aCons, ev_oV, m.get h0, ev_oVK, ev_ok, ev_consK, b1, ev_ok, ev_consK2], b2, ⟨rfl, h1 y, hp y⟩, b3⟩
end
section
variable {p : Pt} {gs : AL} {q : α → Pt} {F : (α → Option γ) → Option γ} {ks : List AK} {vs : α → List D}
theorem x_prim {f : List D → Option D} {m : α → Option β} {rv : α → β → D} (h : XA p gs ks vs q F) (hf : ∀ x z, m x = some z → f (vs x) = some (rv x z)) :
    X true p (oPrim f gs) (fun w : α × β => rv w.1 w.2) (fun w => q w.1) (fun k => F fun x => (m x).bind fun z => k (x, z)) := fun k z e => by
  obtain ⟨x, e1, h⟩ := h _ z e
  obtain ⟨y, e2, e3⟩ := Option.bind_eq_some_iff.mp e1
  refine ⟨(x, y), e3, fun s mm => ?_⟩
  obtain ⟨rs, s2, b1, b2, b3⟩ := h s mm
  exact ⟨.val (rv x y), s2, by rw [ev_prim, b1, ev_ok, ev_primK, b3.rds b2, ev_primK2, hf x y e2, ev_primK3], b2, .inl rfl⟩
theorem x_primT {f : List D → Option D} {rv : α → D} (h : XA p gs ks vs q F) (hf : ∀ x, f (vs x) = some (rv x)) :
    X true p (oPrim f gs) rv q F := fun k z e => by
  obtain ⟨x, e1, h⟩ := h _ z e
  refine ⟨x, e1, fun s mm => ?_⟩
  obtain ⟨rs, s2, b1, b2, b3⟩ := h s mm
  exact ⟨.val (rv x), s2, by rw [ev_prim, b1, ev_ok, ev_primK, b3.rds b2, ev_primK2, hf x, ev_primK3], b2, .inl rfl⟩
theorem x_tup (h : XA p gs ks vs q F) (hk : ks.all AK.isV = true) (hl : ks.length ≤ 1000000) : X true p (oTup gs) (fun x => .tuple (vs x)) q F := fun k z e => by
  obtain ⟨x, e1, h⟩ := h _ z e
  refine ⟨x, e1, fun s mm => ?_⟩
  obtain ⟨rs, s2, b1, b2, b3⟩ := h s mm
  exact ⟨.val (.tuple (vs x)), s2, by rw [ev_oTup, b1, ev_ok, ev_tupK, b3.owns b2 (kv hk), ev_tupK2, if_pos (by rw [b3.len]; exact hl)], b2, .inl rfl⟩
theorem x_lst (h : XA p gs ks vs q F) (hk : ks.all AK.isV = true) (hl : ks.length ≤ 1000000) : X true p (oLst gs) (fun x => .list (vs x)) q F := fun k z e => by
  obtain ⟨x, e1, h⟩ := h _ z e
  refine ⟨x, e1, fun s mm => ?_⟩
  obtain ⟨rs, s2, b1, b2, b3⟩ := h s mm
  exact ⟨.val (.list (vs x)), s2, by rw [ev_oLst, b1, ev_ok, ev_lstK, b3.owns b2 (kv hk), ev_lstK2, if_pos (by rw [b3.len]; exact hl)], b2, .inl rfl⟩
def lkP : List (Nat × D) → Pt → Pt
  | [], p => p
  | a :: l, p => lkP l (stP p a.1 none)
def ulP : List (Nat × D) → Pt → Pt
  | [], p => p
  | a :: l, p => ulP l (stP p a.1 (some a.2))
theorem Mt.lk : ∀ (l : List (Nat × D)) {p : Pt} {s : Sg}, Mt p s → Mt (lkP l p) (lockS l s)
  | [], _, _, h => h
  | a :: l, _, _, h => by rw [lockS_cons]; exact Mt.lk l (h.off a.1 none)
theorem Mt.ul : ∀ (l : List (Nat × D)) {p : Pt} {s : Sg}, Mt p s → Mt (ulP l p) (unlockS l s)
  | [], _, _, h => h
  | a :: l, _, _, h => by rw [unlockS_cons]; exact Mt.ul l (h.put a.1 a.2)
def kn : List AK → List Nat
  | [] => []
  | .s i :: ks => i :: kn ks
  | .v :: ks => kn ks
theorem kl_kn : ∀ (ks : List AK) (ds : List D), ds.length = ks.length → (kl ks ds).map (·.1) = kn ks
  | [], [], _ => rfl
  | .v :: ks, d :: ds, h1 => kl_kn ks ds (by simpa using h1)
  | .s i :: ks, d :: ds, h1 => by
    have := kl_kn ks ds (by simpa using h1)
    simp [kl, kn, this]
theorem ul_go : ∀ (L : List (Nat × D)) (p : Pt) (s : Sg), p.length = s.length → (∀ i d, gtP p i = some d → i ∈ L.map (·.1) ∨ s[i]? = some (some d)) → Mt (ulP L p) (unlockS L s)
  | [], p, s, l, h => ⟨l, fun i d e => (h i d e).elim (fun z => by cases z) id⟩
  | a :: L, p, s, l, h => by
    rw [unlockS_cons]
    refine ul_go L _ _ (by rw [stP_len, List.length_set, l]) fun i d e => ?_
    rw [gtP_stP] at e
    rw [List.getElem?_set]
    by_cases c : a.1 = i
    · right
      by_cases c2 : a.1 < p.length
      · rw [if_pos ⟨c, c2⟩] at e
        rw [if_pos c, if_pos (by omega), e]
      · rw [if_neg (by simp [c2])] at e
        exact absurd (by have : ∀ (p : Pt) (i : Nat) (d : D), gtP p i = some d → i < p.length := by
                            intro p
                            induction p with
                            | nil => intro i d h; cases h
                            | cons o p ih =>
                              intro i d h
                              cases i with
                              | zero => exact Nat.zero_lt_succ _
                              | succ i => exact Nat.succ_lt_succ (ih i d h)
                         rw [c]; exact this p i d e) c2
    · rw [if_neg (by simp [c])] at e
      rw [if_neg c]
      rcases h i d e with z | z
      · rw [List.map_cons] at z
        rcases List.mem_cons.mp z with z | z
        · exact absurd z.symm c
        · exact .inl z
      · exact .inr z
/-- a call: m is what the callee tells, its arguments as they are then -/
theorem x_call {f : Fn} {m : α → Option β} {rv : α → β → D} {as : α → β → List D} (h : XA p gs ks vs q F) (hn : nodupB (kn ks) = true)
    (hf : ∀ x z, m x = some z → f (vs x) = .ok (rv x z) (as x z)) (hl : ∀ x z, (as x z).length = (vs x).length) (L : α → β → List (Nat × D)) (hL : ∀ x z, kl ks (as x z) = L x z) :
    X true p (oCall f gs) (fun w : α × β => rv w.1 w.2) (fun w => ulP (L w.1 w.2) (q w.1)) (fun k => F fun x => (m x).bind fun z => k (x, z)) := fun k z e => by
  obtain ⟨x, e1, h⟩ := h _ z e
  obtain ⟨y, e2, e3⟩ := Option.bind_eq_some_iff.mp e1
  refine ⟨(x, y), e3, fun s mm => ?_⟩
  obtain ⟨rs, s2, b1, b2, b3⟩ := h s mm
  refine ⟨.val (rv x y), _, oCall_ok b1 (b3.rds b2) (by rw [b3.lks, kl_kn _ _ b3.len, hn]) (hf x y e2), ?_, .inl rfl⟩
  rw [b3.lks, b3.lkz (hl x y), hL]
  have ll : ∀ (L : List (Nat × D)) (s : Sg), (lockS L s).length = s.length := by
    intro L
    induction L with
    | nil => intro s; rfl
    | cons a L ih => intro s; rw [lockS_cons, ih, List.length_set]
  refine ul_go _ _ _ (by rw [ll, b2.len]) fun i d e => ?_
  by_cases c : i ∈ (L x y).map (·.1)
  · exact .inl c
  · right
    have k1 : (L x y).map (·.1) = kn ks := by rw [← hL, kl_kn _ _ (by rw [hl, b3.len])]
    have k2 : (kl ks (vs x)).map (·.1) = kn ks := kl_kn _ _ b3.len
    have lg : ∀ (L : List (Nat × D)) (s : Sg), i ∉ L.map (·.1) → (lockS L s)[i]? = s[i]? := by
      intro L
      induction L with
      | nil => intro s _; rfl
      | cons a L ih =>
        intro s h
        rw [List.map_cons] at h
        rw [lockS_cons, ih _ (fun z => h (List.mem_cons_of_mem _ z)), List.getElem?_set, if_neg (fun z => h (by rw [← z]; exact List.mem_cons_self ..))]
    rw [lg _ _ (by rw [k2, ← k1]; exact c)]
    exact b2.has i d e
/-- a call by which no list changes -/
theorem x_callP {f : Fn} {m : α → Option β} {rv : α → β → D} (h : XA p gs ks vs q F) (hn : nodupB (kn ks) = true)
    (hf : ∀ x z, m x = some z → f (vs x) = .ok (rv x z) (vs x)) :
    X true p (oCall f gs) (fun w : α × β => rv w.1 w.2) (fun w => q w.1) (fun k => F fun x => (m x).bind fun z => k (x, z)) := fun k z e => by
  obtain ⟨x, e1, h⟩ := h _ z e
  obtain ⟨y, e2, e3⟩ := Option.bind_eq_some_iff.mp e1
  refine ⟨(x, y), e3, fun s mm => ?_⟩
  obtain ⟨rs, s2, b1, b2, b3⟩ := h s mm
  refine ⟨.val (rv x y), _, oCall_ok b1 (b3.rds b2) (by rw [b3.lks, kl_kn _ _ b3.len, hn]) (hf x y e2), ?_, .inl rfl⟩
  rw [b3.lks, b3.lkz rfl]
  have key : ∀ (ks : List AK) (rs : List Rf) (ds : List D), Rk (q x) ks rs ds → ∀ i d, (i, d) ∈ kl ks ds → gtP (q x) i = some d := by
    intro ks
    induction ks with
    | nil => intro rs ds h i d hm; cases ds <;> simp [kl] at hm
    | cons a ks ih =>
      intro rs ds h i d hm
      cases a with
      | v =>
        cases rs with
        | nil => cases ds <;> exact h.elim
        | cons r rs => cases ds with
          | nil => exact h.elim
          | cons e ds => exact ih rs ds h.2 i d hm
      | s j =>
        cases rs with
        | nil => cases ds <;> exact h.elim
        | cons r rs => cases ds with
          | nil => exact h.elim
          | cons e ds =>
            rcases List.mem_cons.mp hm with z | z
            · cases z; exact h.1.2.1
            · exact ih rs ds h.2 i d z
  have kk := key ks rs (vs x) b3
  generalize kl ks (vs x) = L at kk
  clear key
  -- what is closed and opened again is as it was
  have go : ∀ (L : List (Nat × D)), (∀ i d, (i, d) ∈ L → gtP (q x) i = some d) → ∀ s', s'.length = (q x).length → (∀ i d, gtP (q x) i = some d → (i, d) ∈ L ∨ s'[i]? = some (some d)) → Mt (q x) (unlockS L s') := by
    intro L
    induction L with
    | nil => intro _ s' hl h; exact ⟨hl.symm, fun i d e => (h i d e).elim (fun z => by cases z) id⟩
    | cons a L ih =>
      intro hk s' hl h
      rw [unlockS_cons]
      refine ih (fun i d z => hk i d (List.mem_cons_of_mem _ z)) _ (by rw [List.length_set, hl]) fun i d e => ?_
      have ha := hk a.1 a.2 (List.mem_cons_self ..)
      rw [List.getElem?_set]
      by_cases c : a.1 = i
      · rw [if_pos c]
        rw [c, e] at ha
        cases ha
        have : i < s'.length := by
          have := b2.has i a.2 e
          have l2 := b2.len
          rcases Nat.lt_or_ge i s'.length with z | z
          · exact z
          · rw [List.getElem?_eq_none (by omega)] at this; cases this
        right
        rw [if_pos (by omega)]
      · rw [if_neg c]
        rcases h i d e with z | z
        · rcases List.mem_cons.mp z with z | z
          · exact absurd (by rw [← z]) c
          · exact .inl z
        · exact .inr z
  refine go L kk _ ?_ fun i d e => ?_
  · have : ∀ (L : List (Nat × D)) (s : Sg), (lockS L s).length = s.length := by
      intro L
      induction L with
      | nil => intro s; rfl
      | cons a L ih => intro s; rw [lockS_cons, ih, List.length_set]
    rw [this, b2.len]
  · have : ∀ (L : List (Nat × D)) (s : Sg), (∀ i d, (i, d) ∈ L → gtP (q x) i = some d) → s[i]? = some (some d) → (i, d) ∈ L ∨ (lockS L s)[i]? = some (some d) := by
      intro L
      induction L with
      | nil => intro s _ h; exact .inr h
      | cons a L ih =>
        intro s hk h
        rw [lockS_cons]
        by_cases c : a.1 = i
        · have ha := hk a.1 a.2 (List.mem_cons_self ..)
          rw [c, e] at ha
          cases ha
          left
          rw [← c]
          exact List.mem_cons_self ..
        · exact (ih (s.set a.1 none) (fun i d z => hk i d (List.mem_cons_of_mem _ z)) (by rw [List.getElem?_set, if_neg c]; exact h)).imp (List.mem_cons_of_mem _) id
    exact this L s2 kk (b2.has i d e)
end
end
end Sim
namespace Sim
open PySem PySem.Spec L2
section
variable {α β δ γ σ τ : Type}
theorem only {γ : Type} {β : Type} (z : γ) (y0 : β) : ∃ k : β → Option γ, k y0 = some z ∧ ∀ y, k y = some z → y = y0 := by
  classical
  refine ⟨fun y => if y = y0 then some z else none, by simp, fun y h => ?_⟩
  by_cases c : y = y0
  · exact c
  · simp [c] at h
def XT (p : Pt) (t : T) (b : α → Bool) (q : α → Pt) (F : (α → Option γ) → Option γ) : Prop :=
  ∀ k z, F k = some z → ∃ x, k x = some z ∧ ∀ s, Mt p s → ∃ s', t s = .ok (b x) s' ∧ Mt (q x) s'
section
variable {p : Pt} {g : O} {t u : T} {b : α → Bool} {q : α → Pt} {F : (α → Option γ) → Option γ} {vl : Bool} {v : α → D}
theorem xt_tst (h : X vl p g (fun x => .bool (b x)) q F) : XT p (tst g) b q F := fun k z e => by
  obtain ⟨x, e1, h⟩ := h k z e
  refine ⟨x, e1, fun s m => ?_⟩
  obtain ⟨r, s', h1, h2, h3⟩ := h s m
  exact ⟨s', by rw [ev_tst, h1, ev_ok, ev_tstK, h3.rd h2, ev_tstK2], h2⟩
theorem xt_yes : XT (γ := γ) p tYesT (fun _ : Unit => true) (fun _ => p) (fun k => k ()) := fun k z e => ⟨(), e, fun s m => ⟨s, rfl, m⟩⟩
variable {c : α → β → Bool} {q2 : α → β → Pt}
theorem xt_andT {y0 : α → β} (h : XT p t b q F) (h2 : ∀ x, XT (γ := γ) (q x) u (c x) (fun _ => q x) (fun k => k (y0 x))) : XT p (tAnd t u) (fun x => b x && c x (y0 x)) q F := fun k z e => by
  obtain ⟨x, e1, h⟩ := h k z e
  refine ⟨x, e1, fun s m => ?_⟩
  obtain ⟨s', a1, a2⟩ := h s m
  obtain ⟨k2, k3, k4⟩ := only z (y0 x)
  obtain ⟨y, e2, h2⟩ := h2 x k2 z k3
  rw [k4 y e2] at h2
  obtain ⟨s2, b1, b2⟩ := h2 s' a2
  cases hb : b x with
  | true => exact ⟨s2, by rw [ev_tAnd, a1, ev_ok, ev_tAndK, if_pos hb, b1]; simp [hb], b2⟩
  | false => exact ⟨s', by rw [ev_tAnd, a1, ev_ok, ev_tAndK, if_neg (by simp [hb])]; simp [hb], a2⟩
end
section
variable {p : Pt} {g h' : O} {t : T} {b : α → Bool} {q : α → Pt} {F : (α → Option γ) → Option γ} {vl vl2 : Bool} {c : α → β → Bool}
end
section
variable {p : Pt} {g h' : O} {t : T} {b : α → Bool} {q : α → Pt} {F : (α → Option γ) → Option γ} {vl vl2 : Bool}
end
end
end Sim
namespace Sim
open PySem PySem.Spec L2
section
variable {α β δ γ σ τ ρ : Type}
def As (t : Tg) (d : D) (p p' : Pt) : Prop := ∀ s, Mt p s → ∃ s', asg t d s = some s' ∧ Mt p' s'
def Ass (l : List Tg) (ds : List D) (p p' : Pt) : Prop := ∀ s, Mt p s → ∃ s', asgs l ds s = some s' ∧ Mt p' s'
theorem as_nm {i : Nat} {d : D} {p : Pt} : As (.nm i) d p (stP p i (some d)) := fun s m => ⟨_, asg_nm i d s, m.put i d⟩
theorem as_tp {l : List Tg} {ds : List D} {p p' : Pt} (h : Ass l ds p p') : As (.tp l) (.tuple ds) p p' := fun s m => by
  obtain ⟨s', e, m'⟩ := h s m
  exact ⟨s', by rw [asg_tp, e], m'⟩
theorem ass_nil {p : Pt} : Ass [] [] p p := fun s m => ⟨s, asgs_nil s, m⟩
theorem ass_cons {t : Tg} {l : List Tg} {d : D} {ds : List D} {p p1 p2 : Pt} (h : As t d p p1) (h2 : Ass l ds p1 p2) : Ass (t :: l) (d :: ds) p p2 := fun s m => by
  obtain ⟨s', e, m'⟩ := h s m
  obtain ⟨s2, e2, m2⟩ := h2 s' m'
  exact ⟨s2, by rw [asgs_cons, e, asgsK_some, e2], m2⟩
def XI (p : Pt) (it : I) (ey : β → D) (ys : α → List β) (lk : α → List (Nat × D)) (q : α → Pt) (F : (α → Option γ) → Option γ) : Prop :=
  ∀ k z, F k = some z → ∃ x, k x = some z ∧ (∀ i d, (i, d) ∈ lk x → gtP (q x) i = some d) ∧ ∀ s, Mt p s → ∃ s1, it s = .ok ((ys x).map ey, lk x) (lockS (lk x) s1) ∧ Mt (q x) s1
theorem kl_has {p : Pt} : ∀ (ks : List AK) (rs : List Rf) (ds : List D), Rk p ks rs ds → ∀ i d, (i, d) ∈ kl ks ds → gtP p i = some d
  | [], [], [], _, i, d, hm => by cases hm
  | .v :: ks, r :: rs, e :: ds, h, i, d, hm => kl_has ks rs ds h.2 i d hm
  | .s j :: ks, r :: rs, e :: ds, h, i, d, hm => by
    rcases List.mem_cons.mp hm with z | z
    · cases z; exact h.1.2.1
    · exact kl_has ks rs ds h.2 i d z
section
variable {p : Pt} {gs : AL} {ks : List AK} {vs : α → List D} {q : α → Pt} {F : (α → Option γ) → Option γ} {itm : List D → Option (List D)} {ey : β → D}
theorem xi_mk {ys : α → List β} (h : XA p gs ks vs q F) (hn : nodupB (kn ks) = true) (hp : Pu ey) (hi : ∀ x, itm (vs x) = some ((ys x).map ey)) (hM : Nonempty Sg := ⟨[]⟩) :
    XI p (mkI itm gs) ey ys (fun x => kl ks (vs x)) q F := fun k z e => by
  obtain ⟨x, e1, h⟩ := h k z e
  by_cases c : ∃ s, Mt p s
  · obtain ⟨s0, m0⟩ := c
    refine ⟨x, e1, ?_, fun s m => ?_⟩
    · obtain ⟨rs, s', a1, a2, a3⟩ := h s0 m0
      exact kl_has ks rs (vs x) a3
    · obtain ⟨rs, s', a1, a2, a3⟩ := h s m
      refine ⟨s', ?_, a2⟩
      rw [ev_mkI, a1, ev_ok, ev_mkIK, a3.rds a2, ev_mkIK2, hi x, ev_mkIK3, a3.lks, kl_kn _ _ a3.len, if_pos ⟨purs_pu hp _, hn⟩]
  · exfalso
    exact c (by
      refine ⟨p, Mt.refl p⟩)
theorem xi_mkP {ys : α → δ → List β} {m : α → Option δ} (h : XA p gs ks vs q F) (hn : nodupB (kn ks) = true) (hp : Pu ey) (hi : ∀ x z, m x = some z → itm (vs x) = some ((ys x z).map ey)) :
    XI p (mkI itm gs) ey (fun w : α × δ => ys w.1 w.2) (fun w => kl ks (vs w.1)) (fun w => q w.1) (fun k => F fun x => (m x).bind fun z => k (x, z)) := fun k z e => by
  obtain ⟨x, e1, h⟩ := h _ z e
  obtain ⟨y, e2, e3⟩ := Option.bind_eq_some_iff.mp e1
  refine ⟨(x, y), e3, ?_, fun s m => ?_⟩
  · obtain ⟨rs, s', a1, a2, a3⟩ := h p (Mt.refl p)
    exact kl_has ks rs (vs x) a3
  · obtain ⟨rs, s', a1, a2, a3⟩ := h s m
    refine ⟨s', ?_, a2⟩
    rw [ev_mkI, a1, ev_ok, ev_mkIK, a3.rds a2, ev_mkIK2, hi x y e2, ev_mkIK3, a3.lks, kl_kn _ _ a3.len, if_pos ⟨purs_pu hp _, hn⟩]
end
def B (p : Pt) (g : S) (m : Option γ) (Q : γ → Fl → Sg → Prop) : Prop := ∀ z, m = some z → ∀ s, Mt p s → ∃ fl s', g s = .ok fl s' ∧ Q z fl s'
inductive Lf (σ ρ : Type) where
  | go (x : σ) | brk (x : σ) | ret (z : ρ)
def Lf.on (w : Lf σ ρ) (f : σ → τ) (g : ρ → τ) : τ := match w with
  | .go x => f x
  | .brk x => f x
  | .ret z => g z
@[simp] theorem Lf.on_go (x : σ) (f : σ → τ) (g : ρ → τ) : (Lf.go x : Lf σ ρ).on f g = f x := rfl
@[simp] theorem Lf.on_brk (x : σ) (f : σ → τ) (g : ρ → τ) : (Lf.brk x : Lf σ ρ).on f g = f x := rfl
@[simp] theorem Lf.on_ret (z : ρ) (f : σ → τ) (g : ρ → τ) : (Lf.ret z : Lf σ ρ).on f g = g z := rfl
def Qn (q : γ → Pt) : γ → Fl → Sg → Prop := fun z fl s => fl = .nx ∧ Mt (q z) s
def QF (rv : γ → D) (q : γ → Pt) : γ → Fl → Sg → Prop := fun z fl s => (fl = .rt (rv z) ∨ (fl = .nx ∧ rv z = .none)) ∧ Mt (q z) s
def Qc (q : σ → Pt) : σ → Fl → Sg → Prop := fun z fl s => (fl = .nx ∨ fl = .ct) ∧ Mt (q z) s
def QL (qb : σ → Pt) (rv : ρ → D) (qi : ρ → Pt) : Lf σ ρ → Fl → Sg → Prop
  | .go x, fl, s => (fl = .nx ∨ fl = .ct) ∧ Mt (qb x) s
  | .brk x, fl, s => fl = .bk ∧ Mt (qb x) s
  | .ret z, fl, s => fl = .rt (rv z) ∧ Mt (qi z) s
theorem B.cv {p : Pt} {g : S} {m m' : Option γ} {Q : γ → Fl → Sg → Prop} (h : B p g m Q) (e : m = m') : B p g m' Q := e ▸ h
section
variable {p : Pt} {g h th el rest : S} {m : Option γ} {Q : γ → Fl → Sg → Prop}
theorem seq_skip (g : S) (s : Sg) : sSeq g sSkip s = g s := by
  rw [ev_sSeq]
  cases h : g s with
  | ok fl s1 => cases fl <;> rfl
  | exc c v s1 => rfl
  | bad => rfl
theorem seq_asc (a b c : S) (s : Sg) : sSeq (sSeq a b) c s = sSeq a (sSeq b c) s := by
  rw [ev_sSeq, ev_sSeq, ev_sSeq]
  cases h : a s with
  | ok fl s1 => cases fl <;> rfl
  | exc c v s1 => rfl
  | bad => rfl
theorem b_last (h : B p (sSeq g sSkip) m Q) : B p g m Q := fun z e s mm => by
  obtain ⟨fl, s', h1, h2⟩ := h z e s mm
  exact ⟨fl, s', by rw [← h1, seq_skip], h2⟩
theorem b_asc {a b c : S} (h : B p (sSeq a (sSeq b c)) m Q) : B p (sSeq (sSeq a b) c) m Q := fun z e s mm => by
  obtain ⟨fl, s', h1, h2⟩ := h z e s mm
  exact ⟨fl, s', by rw [← h1, seq_asc], h2⟩
theorem b_skip (h : B p rest m Q) : B p (sSeq sSkip rest) m Q := fun z e s mm => by
  obtain ⟨fl, s', h1, h2⟩ := h z e s mm
  exact ⟨fl, s', h1, h2⟩
theorem b_end {q : γ → Pt} {z : γ} (w : Wk (q z) p) : B p sSkip (some z) (Qn q) := fun z' e s mm => by cases e; exact ⟨.nx, s, rfl, rfl, mm.wk w⟩
theorem b_endC {q : γ → Pt} {z : γ} (w : Wk (q z) p) : B p sSkip (some z) (Qc q) := fun z' e s mm => by cases e; exact ⟨.nx, s, rfl, .inl rfl, mm.wk w⟩
theorem b_endL {qb : σ → Pt} {rv : ρ → D} {qi : ρ → Pt} {z : σ} (w : Wk (qb z) p) : B p sSkip (some (.go z)) (QL qb rv qi) := fun z' e s mm => by cases e; exact ⟨.nx, s, rfl, .inl rfl, mm.wk w⟩
section
variable {e : O} {v : α → D} {q : α → Pt} {F : (α → Option γ) → Option γ} {vl : Bool} {M : α → Option γ} {i : Nat}
theorem b_set (h : X vl p e v q F) (c : vl = true ∨ ∀ x, pur (v x) = true) (hr : ∀ x, B (stP (q x) i (some (v x))) rest (M x) Q) : B p (sSeq (sSet i e) rest) (F M) Q := fun z e0 s mm => by
  obtain ⟨x, e1, h⟩ := h M z e0
  obtain ⟨r, s1, a1, a2, a3⟩ := h s mm
  obtain ⟨fl, s', h1, h2⟩ := hr x z e1 _ (a2.put i (v x))
  refine ⟨fl, s', ?_, h2⟩
  rw [ev_sSeq, ev_sSet, a1, ev_ok, ev_asgK, a3.own a2 (c.imp id fun c => c x), ev_asgK2, asg_nm, ev_asgK3, ev_ok, ev_seqK_nx, h1]
theorem b_setL {τ : Type} (e1 : τ → D) {vv : α → τ} {M : α → τ → Option γ} (h : X vl p e (fun x => e1 (vv x)) q F) (c : vl = true ∨ ∀ x, pur (e1 (vv x)) = true) (hr : ∀ x y, B (stP (q x) i (some (e1 y))) rest (M x y) Q) : B p (sSeq (sSet i e) rest) (F fun x => (some (vv x)).bind (M x)) Q :=
  b_set h c fun x => hr x (vv x)
theorem b_asg {t : Tg} {p' : α → Pt} (h : X vl p e v q F) (c : vl = true ∨ ∀ x, pur (v x) = true) (ha : ∀ x, As t (v x) (q x) (p' x)) (hr : ∀ x, B (p' x) rest (M x) Q) : B p (sSeq (sAsg t e) rest) (F M) Q := fun z e0 s mm => by
  obtain ⟨x, e1, h⟩ := h M z e0
  obtain ⟨r, s1, a1, a2, a3⟩ := h s mm
  obtain ⟨s2, b1, b2⟩ := ha x s1 a2
  obtain ⟨fl, s', h1, h2⟩ := hr x z e1 _ b2
  refine ⟨fl, s', ?_, h2⟩
  rw [ev_sSeq, ev_sAsg, a1, ev_ok, ev_asgK, a3.own a2 (c.imp id fun c => c x), ev_asgK2, b1, ev_asgK3, ev_ok, ev_seqK_nx, h1]
theorem b_expr (h : X vl p e v q F) (hr : ∀ x, B (q x) rest (M x) Q) : B p (sSeq (sExpr e) rest) (F M) Q := fun z e0 s mm => by
  obtain ⟨x, e1, h⟩ := h M z e0
  obtain ⟨r, s1, a1, a2, a3⟩ := h s mm
  obtain ⟨fl, s', h1, h2⟩ := hr x z e1 _ a2
  refine ⟨fl, s', ?_, h2⟩
  rw [ev_sSeq, ev_sExpr, a1, ev_ok, ev_exprK, ev_ok, ev_seqK_nx, h1]
theorem b_par {l : List Nat} {gs : AL} {ks : List AK} {vs : α → List D} (h : XA p gs ks vs q F) (hk : ks.all AK.isV = true) (hl : ∀ x, (vs x).length = l.length) {p' : α → Pt} (hp : ∀ x s, Mt (q x) s → Mt (p' x) (putAll l (vs x) s))
    (hr : ∀ x, B (p' x) rest (M x) Q) : B p (sSeq (sPar l gs) rest) (F M) Q := fun z e0 s mm => by
  obtain ⟨x, e1, h⟩ := h M z e0
  obtain ⟨rs, s1, a1, a2, a3⟩ := h s mm
  obtain ⟨fl, s', h1, h2⟩ := hr x z e1 _ (hp x s1 a2)
  refine ⟨fl, s', ?_, h2⟩
  have : sPar l gs s = .ok .nx (putAll l (vs x) s1) := by
    unfold sPar
    rw [a1, ev_ok]
    simp only [a3.owns a2 (kv hk)]
    rw [if_pos (hl x)]
  rw [ev_sSeq, this, ev_ok, ev_seqK_nx, h1]
theorem put2 {i j : Nat} {a b : D} {p : Pt} : ∀ s, Mt p s → Mt (stP (stP p i (some a)) j (some b)) (putAll [i, j] [a, b] s) := fun s m => (m.put i a).put j b
theorem b_ret {lk : Nat → Bool} (h : X vl p e v q F) (R : α → γ) (c : vl = true ∨ ∀ x, pur (v x) = true) (hQ : ∀ x s, Mt (q x) s → Q (R x) (.rt (v x)) s) : B p (sSeq (sRet lk e) rest) (F fun x => some (R x)) Q := fun z e0 s mm => by
  obtain ⟨x, e1, h⟩ := h _ z e0
  cases e1
  obtain ⟨r, s1, a1, a2, a3⟩ := h s mm
  refine ⟨.rt (v x), s1, ?_, hQ x s1 a2⟩
  rw [ev_sSeq, ev_sRet, a1, ev_ok]
  rcases a3 with rfl | ⟨hv, i, rfl, hg⟩
  · rfl
  · rcases c with c | c
    · rw [hv] at c; cases c
    · rw [ev_retK_slot, a2.get hg, ev_retK2, if_pos (.inl (c x))]; rfl
/-- a list of one's own is given -/
theorem b_retS {lk : Nat → Bool} {d : D} {R : γ} (h : gtP p i = some d) (hl : lk i = false) (hQ : ∀ s, Mt p s → Q R (.rt d) s) : B p (sSeq (sRet lk (oV i)) rest) (some R) Q := fun z e0 s mm => by
  cases e0
  refine ⟨.rt d, s, ?_, hQ s mm⟩
  rw [ev_sSeq, ev_sRet, ev_oV, mm.get h, ev_oVK, ev_ok, ev_retK_slot, mm.get h, ev_retK2, if_pos (.inr hl)]; rfl
/-- a tuple is given, with lists of one's own in it -/
theorem ownsR_of {p : Pt} {s : Sg} {lk : Nat → Bool} (m : Mt p s) : ∀ {ks : List AK} {rs : List Rf} {ds : List D}, Rk p ks rs ds → (kn ks).all (fun i => !lk i) = true → ownsR lk rs s = some ds
  | [], [], [], _, _ => rfl
  | .v :: ks, r :: rs, d :: ds, h, a => by
    have ih := ownsR_of m h.2 a
    have o : ownR lk r s = some d := by
      rcases h.1.2 with z | z
      · rw [z]; rfl
      · rcases h.1.1 with z2 | ⟨_, i, z2, z3⟩
        · rw [z2]; rfl
        · rw [z2]
          unfold ownR
          simp only [m.get z3, z, true_or, if_true]
    unfold ownsR
    rw [o, ih]
  | .s i :: ks, r :: rs, d :: ds, h, a => by
    have a : (!lk i && (kn ks).all fun i => !lk i) = true := a
    rw [Bool.and_eq_true] at a
    have ih := ownsR_of m h.2 a.2
    have o : ownR lk r s = some d := by
      rw [h.1.1]
      unfold ownR
      have : lk i = false := by simpa using a.1
      simp only [m.get h.1.2.1, this, or_true, if_true]
    unfold ownsR
    rw [o, ih]
theorem b_retT {lk : Nat → Bool} {gs : AL} {ks : List AK} {vs : α → List D} (h : XA p gs ks vs q F) (hk : (kn ks).all (fun i => !lk i) = true) (hn : nodupB (kn ks) = true) (hl : ks.length ≤ 1000000) (R : α → γ) (hQ : ∀ x s, Mt (q x) s → Q (R x) (.rt (.tuple (vs x))) s) :
    B p (sSeq (sRetT lk gs) rest) (F fun x => some (R x)) Q := fun z e0 s mm => by
  obtain ⟨x, e1, h⟩ := h _ z e0
  cases e1
  obtain ⟨rs, s1, a1, a2, a3⟩ := h s mm
  refine ⟨.rt (.tuple (vs x)), s1, ?_, hQ x s1 a2⟩
  have : sRetT lk gs s = .ok (.rt (.tuple (vs x))) s1 := by
    unfold sRetT
    rw [a1, ev_ok, ownsR_of a2 a3 hk]
    simp only []
    rw [if_pos ⟨by rw [a3.len]; exact hl, by rw [a3.lks, kl_kn _ _ a3.len, hn]⟩]
  rw [ev_sSeq, this, ev_ok, ev_seqK_rt]
theorem qf_ret {rv : γ → D} {q : γ → Pt} {z : γ} {d : D} (e : d = rv z) (w : Wk (q z) p) : ∀ s, Mt p s → QF rv q z (.rt d) s := fun s m => ⟨.inl (by rw [e]), m.wk w⟩
theorem ql_ret {qb : σ → Pt} {rv : ρ → D} {qi : ρ → Pt} {z : ρ} {d : D} (e : d = rv z) (w : Wk (qi z) p) : ∀ s, Mt p s → QL qb rv qi (.ret z) (.rt d) s := fun s m => ⟨by rw [e], m.wk w⟩
/-- x[k] = e -/
def setT (xs : List τ) (k : Int) (v : τ) : Option (List τ) := (ixN xs.length k).map fun j => xs.set j v
theorem b_setIx {ga : O} {e1 : τ → D} {vx : α → τ} {β : Type} {vk : α → β → Int} {q2 : α → β → Pt} {F2 : α → (β → Option γ) → Option γ} {xs : α → β → List τ} {M : α → β → List τ → Option γ} {vl2 : Bool}
    (h : X vl p e (fun x => e1 (vx x)) q F) (hp : Pu e1) (hi : ∀ x, ∃ d, gtP (q x) i = some d) (h2 : ∀ x, X vl2 (q x) ga (fun y => .int (vk x y)) (q2 x) (F2 x)) (hv : ∀ x y, vl = true ∨ q2 x y = q x) (hi2 : ∀ x y, gtP (q2 x y) i = some (eL e1 (xs x y)))
    (hr : ∀ x y ys, B (stP (q2 x y) i (some (eL e1 ys))) rest (M x y ys) Q) : B p (sSeq (sSetIx i ga e) rest) (F fun x => F2 x fun y => (setT (xs x y) (vk x y) (vx x)).bind (M x y)) Q := fun z e0 s mm => by
  obtain ⟨x, e2, h⟩ := h _ z e0
  obtain ⟨y, e3, h2⟩ := h2 x _ z e2
  obtain ⟨ys, e4, e5⟩ := Option.bind_eq_some_iff.mp e3
  obtain ⟨r, s1, a1, a2, a3⟩ := h s mm
  obtain ⟨r2, s2, b1, b2, b3⟩ := h2 s1 a2
  unfold setT at e4
  obtain ⟨j, e6, e7⟩ := Option.map_eq_some_iff.mp e4
  have b4 := b2.put i (eL e1 ys)
  obtain ⟨fl, s', h1, h2⟩ := hr x y ys z e5 _ b4
  refine ⟨fl, s', ?_, h2⟩
  obtain ⟨d0, hd0⟩ := hi x
  have o : own r s2 = some (e1 (vx x)) := by
    rcases hv x y with c | c
    · rcases a3 with rfl | ⟨c2, _⟩
      · rfl
      · rw [c] at c2; cases c2
    · rw [c] at b2
      exact Rd.own a3 b2 (.inr (hp _))
  have l : (List.map e1 (xs x y)).length = (xs x y).length := by simp
  rw [ev_sSeq, ev_sSetIx, a1, ev_ok, ev_ixK, ev_oV, a2.get hd0, ev_oVK, ev_ok, ev_ixK1, b1, ev_ok, ev_ixK2, o, b3.rd b2, b2.get (hi2 x y)]
  show ((ixK3 i s2 (some (e1 (vx x))) (some (.int (vk x y))) (some (.list ((xs x y).map e1)))).bind (seqK rest)) = _
  rw [ev_ixK3, if_pos (hp _), l, e6, ev_ixK4, ev_ok, ev_seqK_nx, ← h1]
  refine congrArg rest (congrArg (fun d => s2.set i (some d)) ?_)
  rw [← e7, eL, List.map_set]
end
section
variable {t : T} {b : α → Bool} {q : α → Pt} {F : (α → Option γ) → Option γ}
/-- what is behind stands behind both -/
theorem b_if {m1 m2 : α → Option γ} (h : XT p t b q F) (h1 : ∀ x, B (q x) (sSeq th rest) (m1 x) Q) (h2 : ∀ x, B (q x) (sSeq el rest) (m2 x) Q) :
    B p (sSeq (sIf t th el) rest) (F fun x => if b x = true then m1 x else m2 x) Q := fun z e0 s mm => by
  obtain ⟨x, e1, h⟩ := h _ z e0
  obtain ⟨s1, a1, a2⟩ := h s mm
  cases hb : b x with
  | true =>
    rw [if_pos hb] at e1
    obtain ⟨fl, s', b1, b2⟩ := h1 x z e1 s1 a2
    refine ⟨fl, s', ?_, b2⟩
    rw [ev_sSeq, ev_sIf, a1, ev_ok, ev_ifK, if_pos hb, ← b1, ev_sSeq]
  | false =>
    rw [if_neg (by simp [hb])] at e1
    obtain ⟨fl, s', b1, b2⟩ := h2 x z e1 s1 a2
    refine ⟨fl, s', ?_, b2⟩
    rw [ev_sSeq, ev_sIf, a1, ev_ok, ev_ifK, if_neg (by simp [hb]), ← b1, ev_sSeq]
/-- both go on, with the same names told -/
theorem b_ifj {m1 m2 : α → Option τ} {M : α → τ → Option γ} (h : XT p t b q F) (qj : α → τ → Pt) (h1 : ∀ x, B (q x) th (m1 x) (Qn (qj x))) (h2 : ∀ x, B (q x) el (m2 x) (Qn (qj x)))
    (hr : ∀ x y, B (qj x y) rest (M x y) Q) : B p (sSeq (sIf t th el) rest) (F fun x => (if b x = true then m1 x else m2 x).bind (M x)) Q := fun z e0 s mm => by
  obtain ⟨x, e1, h⟩ := h _ z e0
  obtain ⟨y, e2, e3⟩ := Option.bind_eq_some_iff.mp e1
  obtain ⟨s1, a1, a2⟩ := h s mm
  cases hb : b x with
  | true =>
    rw [if_pos hb] at e2
    obtain ⟨fl, s2, b1, b2, b3⟩ := h1 x y e2 s1 a2
    subst b2
    obtain ⟨fl, s', c1, c2⟩ := hr x y z e3 s2 b3
    refine ⟨fl, s', ?_, c2⟩
    rw [ev_sSeq, ev_sIf, a1, ev_ok, ev_ifK, if_pos hb, b1, ev_ok, ev_seqK_nx, c1]
  | false =>
    rw [if_neg (by simp [hb])] at e2
    obtain ⟨fl, s2, b1, b2, b3⟩ := h2 x y e2 s1 a2
    subst b2
    obtain ⟨fl, s', c1, c2⟩ := hr x y z e3 s2 b3
    refine ⟨fl, s', ?_, c2⟩
    rw [ev_sSeq, ev_sIf, a1, ev_ok, ev_ifK, if_neg (by simp [hb]), b1, ev_ok, ev_seqK_nx, c1]
end
def lpN (F : σ → β → Option σ) : List β → σ → Option σ
  | [], s => some s
  | y :: ys, s => (F s y).bind (lpN F ys)
def lpR (F : σ → β → Option (Lf σ ρ)) : List β → σ → Option (Lf σ ρ)
  | [], s => some (.go s)
  | y :: ys, s => (F s y).bind fun w => match w with
    | .go s => lpR F ys s
    | .brk s => some (.go s)
    | .ret z => some (.ret z)
theorem loop_N {t : Tg} {g : S} {ey : β → D} {qb : σ → Pt} {pb : σ → β → Pt} {mb : σ → β → Option σ} (hT : ∀ x y, As t (ey y) (qb x) (pb x y)) (hb : ∀ x y, B (pb x y) g (mb x y) (Qc qb)) :
    ∀ (ys : List β) (x x' : σ) (s : Sg), lpN mb ys x = some x' → Mt (qb x) s → ∃ s', loopS t g (ys.map ey) s = .ok .nx s' ∧ Mt (qb x') s'
  | [], x, x', s, e, m => by cases e; exact ⟨s, rfl, m⟩
  | y :: ys, x, x', s, e, m => by
    obtain ⟨x1, e1, e2⟩ := Option.bind_eq_some_iff.mp e
    obtain ⟨s1, a1, a2⟩ := hT x y s m
    obtain ⟨fl, s2, b1, b2, b3⟩ := hb x y x1 e1 s1 a2
    obtain ⟨s', c1, c2⟩ := loop_N hT hb ys x1 x' s2 e2 b3
    refine ⟨s', ?_, c2⟩
    rw [List.map_cons, loop_cons, a1, loopK1_some, b1, ev_ok]
    rcases b2 with rfl | rfl <;> exact c1
theorem loop_R {t : Tg} {g : S} {ey : β → D} {qb : σ → Pt} {pb : σ → β → Pt} {mb : σ → β → Option (Lf σ ρ)} {rv : ρ → D} {qi : ρ → Pt} (hT : ∀ x y, As t (ey y) (qb x) (pb x y)) (hb : ∀ x y, B (pb x y) g (mb x y) (QL qb rv qi)) :
    ∀ (ys : List β) (x : σ) (w : Lf σ ρ) (s : Sg), lpR mb ys x = some w → Mt (qb x) s → (∃ x' s', w = .go x' ∧ loopS t g (ys.map ey) s = .ok .nx s' ∧ Mt (qb x') s') ∨ (∃ z s', w = .ret z ∧ loopS t g (ys.map ey) s = .ok (.rt (rv z)) s' ∧ Mt (qi z) s')
  | [], x, x', s, e, m => by cases e; exact .inl ⟨x, s, rfl, rfl, m⟩
  | y :: ys, x, x', s, e, m => by
    obtain ⟨w, e1, e2⟩ := Option.bind_eq_some_iff.mp e
    obtain ⟨s1, a1, a2⟩ := hT x y s m
    obtain ⟨fl, s2, b1, b2⟩ := hb x y w e1 s1 a2
    cases w with
    | go x1 =>
      have ih := loop_R hT hb ys x1 x' s2 e2 b2.2
      have key : loopS t g ((y :: ys).map ey) s = loopS t g (ys.map ey) s2 := by
        rw [List.map_cons, loop_cons, a1, loopK1_some, b1, ev_ok]
        rcases b2.1 with rfl | rfl <;> rfl
      rw [key]
      exact ih
    | brk x1 =>
      cases e2
      refine .inl ⟨x1, s2, rfl, ?_, b2.2⟩
      rw [List.map_cons, loop_cons, a1, loopK1_some, b1, ev_ok, b2.1]; rfl
    | ret z =>
      cases e2
      refine .inr ⟨z, s2, rfl, ?_, b2.2⟩
      rw [List.map_cons, loop_cons, a1, loopK1_some, b1, ev_ok, b2.1]; rfl
section
variable {it : I} {ey : β → D} {ys : α → List β} {lk : α → List (Nat × D)} {q : α → Pt} {F : (α → Option γ) → Option γ} {lkf : Nat → Bool} {t : Tg} {pb : α → σ → β → Pt}
theorem b_for {mb : α → σ → β → Option σ} {M : α → σ → Option γ} (h : XI p it ey ys lk q F) (qb : α → σ → Pt) (s0 : α → σ) (hl : ∀ x, ((lk x).all fun q => lkf q.1) = true) (h0 : ∀ x, Wk (qb x (s0 x)) (lkP (lk x) (q x)))
    (hT : ∀ x s y, As t (ey y) (qb x s) (pb x s y)) (hb : ∀ x s y, B (pb x s y) g (mb x s y) (Qc (qb x))) (hr : ∀ x s, B (ulP (lk x) (qb x s)) rest (M x s) Q) :
    B p (sSeq (sFor lkf it t g) rest) (F fun x => (lpN (fun s y => mb x s y) (ys x) (s0 x)).bind (M x)) Q := fun z e0 s mm => by
  obtain ⟨x, e1, hx, h⟩ := h _ z e0
  obtain ⟨s1, a1, a2⟩ := h s mm
  obtain ⟨x', e2, e3⟩ := Option.bind_eq_some_iff.mp e1
  obtain ⟨s2, b1, b2⟩ := loop_N (hT x) (hb x) (ys x) (s0 x) x' _ e2 ((a2.lk _).wk (h0 x))
  obtain ⟨fl, s', c1, c2⟩ := hr x x' z e3 _ (b2.ul (lk x))
  refine ⟨fl, s', ?_, c2⟩
  rw [ev_sSeq, for_ok a1 (hl x) b1, ev_ok, ev_seqK_nx, c1]
theorem b_forR {mb : α → σ → β → Option (Lf σ ρ)} {M : α → σ → Option γ} (h : XI p it ey ys lk q F) (qb : α → σ → Pt) (s0 : α → σ) (rv : ρ → D) (qi : α → ρ → Pt) (R : ρ → γ) (hl : ∀ x, ((lk x).all fun q => lkf q.1) = true) (h0 : ∀ x, Wk (qb x (s0 x)) (lkP (lk x) (q x)))
    (hT : ∀ x s y, As t (ey y) (qb x s) (pb x s y)) (hb : ∀ x s y, B (pb x s y) g (mb x s y) (QL (qb x) rv (qi x))) (hR : ∀ x z s, Mt (ulP (lk x) (qi x z)) s → Q (R z) (.rt (rv z)) s) (hr : ∀ x s, B (ulP (lk x) (qb x s)) rest (M x s) Q) :
    B p (sSeq (sFor lkf it t g) rest) (F fun x => (lpR (fun s y => mb x s y) (ys x) (s0 x)).bind fun w => w.on (M x) (fun z => some (R z))) Q := fun z e0 s mm => by
  obtain ⟨x, e1, hx, h⟩ := h _ z e0
  obtain ⟨s1, a1, a2⟩ := h s mm
  obtain ⟨w, e2, e3⟩ := Option.bind_eq_some_iff.mp e1
  rcases loop_R (hT x) (hb x) (ys x) (s0 x) w _ e2 ((a2.lk _).wk (h0 x)) with ⟨x', s2, rfl, b1, b2⟩ | ⟨z', s2, rfl, b1, b2⟩
  · obtain ⟨fl, s', c1, c2⟩ := hr x x' z e3 _ (b2.ul (lk x))
    refine ⟨fl, s', ?_, c2⟩
    rw [ev_sSeq, for_ok a1 (hl x) b1, ev_ok, ev_seqK_nx, c1]
  · cases e3
    refine ⟨.rt (rv z'), _, ?_, hR x z' _ (b2.ul (lk x))⟩
    rw [ev_sSeq, for_ok a1 (hl x) b1, ev_ok, ev_seqK_rt]
end
end
theorem puL {e : α → D} {xs : List α} : pur (eL e xs) = false := pur_list _
theorem fn_t {ms : List Nat} {n : Nat} {g : S} {ds : List D} {p0 : Pt} {m : Option γ} {rv : γ → D} {q : γ → Pt} {outs : γ → List D} (hb : B p0 g m (QF rv q)) (h0 : ds.map some ++ List.replicate (n - ds.length) none = p0) (h1 : okM ms ds = true)
    (h2 : ∀ z s, Mt (q z) s → coll ms ds 0 s = some (outs z)) : ∀ z, m = some z → mkFn ms n g ds = .ok (rv z) (outs z) := fun z e => by
  obtain ⟨fl, s', a1, a2, a3⟩ := hb z e p0 (Mt.refl _)
  rw [← h0] at a1
  rcases a2 with rfl | ⟨rfl, e2⟩
  · exact mkFn_rt h1 a1 (h2 z s' a3)
  · rw [e2]; exact mkFn_nx h1 a1 (h2 z s' a3)
theorem coll_nilP {p : Pt} {j : Nat} : ∀ s, Mt p s → coll [] [] j s = some [] := fun s _ => rfl
theorem coll_0P {p : Pt} {j : Nat} {ms : List Nat} {d d' : D} {ds as : List D} (h : gtP p j = some d') (h2 : ∀ s, Mt p s → coll ms ds (j + 1) s = some as) : ∀ s, Mt p s → coll (0 :: ms) (d :: ds) j s = some (d' :: as) := fun s m => by
  rw [coll_0, m.get h, h2 s m]; rfl
theorem coll_1P {p : Pt} {j : Nat} {ms : List Nat} {d : D} {ds as : List D} (h2 : ∀ s, Mt p s → coll ms ds (j + 1) s = some as) : ∀ s, Mt p s → coll (1 :: ms) (d :: ds) j s = some (d :: as) := fun s m => by
  rw [coll_1, h2 s m]; rfl
end
end Sim
namespace Sim
open PySem PySem.Spec L2
def lim {α : Type} (n : Nat) (m : Option α) : Option α := if n ≤ 1000000 then m else none
theorem lim_of {α : Type} {n : Nat} {m : Option α} (h : n ≤ 1000000) : lim n m = m := if_pos h
section
variable {α β δ γ σ τ ρ ε ζ : Type}
def XPr (p : Pt) (po : Option O) (l : α → Option Int) (F : (α → Option γ) → Option γ) : Prop :=
  ∀ k z, F k = some z → ∃ x, k x = some z ∧ ∀ s, Mt p s → ∃ s', prt po s = .ok (l x) s' ∧ Mt p s'
theorem xpr_none {p : Pt} : XPr (γ := γ) p none (fun _ : Unit => none) (fun k => k ()) := fun k z e => ⟨(), e, fun s m => ⟨s, rfl, m⟩⟩
theorem xpr_some {p : Pt} {g : O} {i : α → Int} {F : (α → Option γ) → Option γ} {vl : Bool} (h : X vl p g (fun x => .int (i x)) (fun _ => p) F) : XPr p (some g) (fun x => some (i x)) F := fun k z e => by
  obtain ⟨x, e1, h⟩ := h k z e
  refine ⟨x, e1, fun s m => ?_⟩
  obtain ⟨r, s', a1, a2, a3⟩ := h s m
  exact ⟨s', by rw [ev_prt_some, a1, ev_ok, ev_prtK, a3.rd a2, ev_prtK2], a2⟩
section
variable {p : Pt} {g : O} {lo hi st : Option O} {v : α → D} {q : α → Pt} {F : (α → Option γ) → Option γ} {vl : Bool} {l : α → β → Option Int} {F1 : α → (β → Option γ) → Option γ}
  {u : α → β → δ → Option Int} {F2 : α → β → (δ → Option γ) → Option γ}
end
section
variable {p : Pt} {g : O} {lo hi st : Option O} {v : α → D} {q : α → Pt} {F : (α → Option γ) → Option γ} {vl : Bool} {l : α → β → Option Int} {F1 : α → (β → Option γ) → Option γ}
  {u : α → β → δ → Option Int} {F2 : α → β → (δ → Option γ) → Option γ}
theorem x_stT {t : α → β → δ → ε → Option Int} {F3 : α → β → δ → (ε → Option γ) → Option γ} {rv : α → β → δ → ε → D} (h : X vl p g v q F) (h1 : ∀ x, XPr (q x) lo (l x) (F1 x)) (h2 : ∀ x y, XPr (q x) hi (u x y) (F2 x y))
    (h3 : ∀ x y w, XPr (q x) st (t x y w) (F3 x y w)) (hs : ∀ x y w w2, stD (v x) (l x y) (u x y w) (t x y w w2) = some (rv x y w w2)) :
    X true p (oSt g lo hi st) (fun w : α × β × δ × ε => rv w.1 w.2.1 w.2.2.1 w.2.2.2) (fun w => q w.1) (fun k => F fun x => F1 x fun y => F2 x y fun w => F3 x y w fun w2 => k (x, y, w, w2)) := fun k z e => by
  obtain ⟨x, e1, h⟩ := h _ z e
  obtain ⟨y, e2, h1⟩ := h1 x _ z e1
  obtain ⟨w, e3, h2⟩ := h2 x y _ z e2
  obtain ⟨w2, e4, h3⟩ := h3 x y w _ z e3
  refine ⟨(x, y, w, w2), e4, fun s mm => ?_⟩
  obtain ⟨r, s1, a1, a2, a3⟩ := h s mm
  obtain ⟨s2, b1, b2⟩ := h1 s1 a2
  obtain ⟨s3, c1, c2⟩ := h2 s2 b2
  obtain ⟨s4, d1, d2⟩ := h3 s3 c2
  refine ⟨.val (rv x y w w2), s4, ?_, d2, .inl rfl⟩
  show ((g s).bind fun r s1 => (prt lo s1).bind fun l s2 => (prt hi s2).bind fun u s3 => (prt st s3).bind fun t s4 => _) = _
  simp only [a1, ev_ok, b1, c1, d1, a3.rd d2, hs x y w w2]
end
theorem x_ten {p : Pt} (n : Nat) (h1 : 2 ≤ n) (h2 : n ≤ 100000) : X (γ := γ) true p (oTen n) (fun _ : Unit => .int (tenN n)) (fun _ => p) (fun k => k ()) :=
  fun k z e => ⟨(), e, fun s m => ⟨_, s, ev_ten n h1 h2 s, m, .inl rfl⟩⟩
theorem x_mt {p : Pt} {gs : AL} {ks : List AK} {vs : α → List D} {q : α → Pt} {F : (α → Option γ) → Option γ} {f : List D → List D → Option (List D × D)} {i : Nat} {e : τ → D} {x0 : List τ} {xs : α → List τ} {m : α → Option β} {xs' : α → β → List τ} {rv : α → β → D}
    (h0 : gtP p i = some (eL e x0)) (h : XA p gs ks vs q F) (hk : ks.all AK.isV = true) (h1 : ∀ x, gtP (q x) i = some (eL e (xs x))) (hf : ∀ x z, m x = some z → f ((xs x).map e) (vs x) = some ((xs' x z).map e, rv x z)) (hp : ∀ x z, pur (rv x z) = true) :
    X true p (oMt f i gs) (fun w : α × β => rv w.1 w.2) (fun w => stP (q w.1) i (some (eL e (xs' w.1 w.2)))) (fun k => F fun x => (m x).bind fun z => k (x, z)) := fun k z e0 => by
  obtain ⟨x, e1, h⟩ := h _ z e0
  obtain ⟨y, e2, e3⟩ := Option.bind_eq_some_iff.mp e1
  refine ⟨(x, y), e3, fun s mm => ?_⟩
  obtain ⟨rs, s2, b1, b2, b3⟩ := h s mm
  refine ⟨.val (rv x y), s2.set i (some (eL e (xs' x y))), ?_, b2.put i _, .inl rfl⟩
  have g1 : (s[i]?).join = some (.list (x0.map e)) := mm.get h0
  have g2 : (s2[i]?).join = some (.list ((xs x).map e)) := b2.get (h1 x)
  rw [ev_oMt, ev_oV, g1, ev_oVK, ev_ok, ev_mtK, g1, ev_mtK1, b1, ev_ok, ev_mtK2, g2, b3.owns b2 (kv hk), ev_mtK3, hf x y e2, ev_mtK4, if_pos (hp x y)]
  rfl
theorem x_idx {p : Pt} {g h' : O} {v : α → D} {ds : α → List D} {q : α → Pt} {F : (α → Option γ) → Option γ} {vl vl2 : Bool} {v2 : α → β → D} {F2 : α → (β → Option γ) → Option γ} {m : α → β → Option δ} {rv : α → β → δ → D}
    (h : X vl p g v q F) (hd : ∀ x, v x = .tuple (ds x)) (h2 : ∀ x, X vl2 (q x) h' (v2 x) (fun _ => q x) (F2 x)) (hf : ∀ x y z, m x y = some z → pIndexT [.tuple (ds x), v2 x y] = some (rv x y z)) :
    X true p (oIdxT g h') (fun w : α × β × δ => rv w.1 w.2.1 w.2.2) (fun w => q w.1) (fun k => F fun x => F2 x fun y => (m x y).bind fun z => k (x, y, z)) := fun k z e => by
  obtain ⟨x, e1, h⟩ := h _ z e
  obtain ⟨y, e2, h2⟩ := h2 x _ z e1
  obtain ⟨w, e3, e4⟩ := Option.bind_eq_some_iff.mp e2
  refine ⟨(x, y, w), e4, fun s mm => ?_⟩
  obtain ⟨r, s1, a1, a2, a3⟩ := h s mm
  obtain ⟨r2, s2, b1, b2, b3⟩ := h2 s1 a2
  refine ⟨.val (rv x y w), s2, ?_, b2, .inl rfl⟩
  have e5 : rds [r, r2] s2 = some [.tuple (ds x), v2 x y] := by rw [rds_cons, rds_cons, rds_nil, a3.rd b2, b3.rd b2, hd]; rfl
  unfold oIdxT
  rw [a1, ev_ok, a3.rd a2, hd]
  simp only [b1, ev_ok, e5, hf x y w e3]
def clP : List Nat → Pt → Pt
  | [], p => p
  | v :: vs, p => stP (clP vs p) v none
theorem Mt.cl : ∀ (vs : List Nat) {p : Pt} {s : Sg}, Mt p s → Mt (clP vs p) (clrS vs s)
  | [], _, _, h => h
  | v :: vs, _, _, h => by rw [clrS_cons]; exact (Mt.cl vs h).off v none
theorem own_mem : ∀ {vs : List Nat} {s : Sg} {i : Nat} {d : D}, (i, d) ∈ ownSl vs s ↔ i ∈ vs ∧ (s[i]?).join = some d
  | [], s, i, d => by simp
  | v :: vs, s, i, d => by
    rw [ownSl_cons]
    cases h : (s[v]?).join with
    | none =>
      rw [ownSlK_none, own_mem]
      constructor
      · rintro ⟨a, b⟩; exact ⟨List.mem_cons_of_mem _ a, b⟩
      · rintro ⟨a, b⟩
        rcases List.mem_cons.mp a with rfl | a
        · rw [h] at b; cases b
        · exact ⟨a, b⟩
    | some e =>
      rw [ownSlK_some, List.mem_cons, own_mem]
      constructor
      · rintro (a | ⟨a, b⟩)
        · cases a; exact ⟨List.mem_cons_self .., h⟩
        · exact ⟨List.mem_cons_of_mem _ a, b⟩
      · rintro ⟨a, b⟩
        rcases List.mem_cons.mp a with rfl | a
        · rw [h] at b; cases b; exact .inl rfl
        · exact .inr ⟨a, b⟩
theorem own_nodup : ∀ {vs : List Nat} {s : Sg}, nodupB vs = true → nodupB ((ownSl vs s).map (·.1)) = true
  | [], s, _ => by simp
  | v :: vs, s, h => by
    rw [ev_nodupB, Bool.and_eq_true] at h
    rw [ownSl_cons]
    have ih := own_nodup (s := s) h.2
    cases e : (s[v]?).join with
    | none => rw [ownSlK_none]; exact ih
    | some d =>
      rw [ownSlK_some, List.map_cons, ev_nodupB, ih, Bool.and_true]
      have h1 := h.1
      simp only [Bool.not_eq_true', List.contains_eq_mem, decide_eq_false_iff_not] at h1 ⊢
      intro z
      obtain ⟨a, ha, hb⟩ := List.mem_map.mp z
      obtain ⟨a1, a2⟩ := a
      have hb : a1 = v := hb
      subst hb
      exact h1 (own_mem.mp ha).1
theorem lock_get : ∀ {L : List (Nat × D)} {s : Sg} {i : Nat}, (∀ d, (i, d) ∉ L) → (lockS L s)[i]? = s[i]?
  | [], s, i, _ => rfl
  | a :: L, s, i, h => by
    rw [lockS_cons, lock_get fun d z => h d (List.mem_cons_of_mem _ z), List.getElem?_set, if_neg]
    intro z
    exact h a.2 (by rw [← z]; exact List.mem_cons_self ..)
theorem lock_len : ∀ (L : List (Nat × D)) (s : Sg), (lockS L s).length = s.length
  | [], _ => rfl
  | a :: L, s => by rw [lockS_cons, lock_len L, List.length_set]
theorem unlock_len : ∀ (L : List (Nat × D)) (s : Sg), (unlockS L s).length = s.length
  | [], _ => rfl
  | a :: L, s => by rw [unlockS_cons, unlock_len L, List.length_set]
theorem clr_len : ∀ (vs : List Nat) (s : Sg), (clrS vs s).length = s.length
  | [], _ => rfl
  | v :: vs, s => by rw [clrS_cons, List.length_set, clr_len vs]
theorem unlock_get : ∀ {L : List (Nat × D)} {s : Sg} {i : Nat} {d : D}, (∀ d', (i, d') ∈ L → d' = d) → i < s.length → ((∃ d', (i, d') ∈ L) ∨ s[i]? = some (some d)) → (unlockS L s)[i]? = some (some d)
  | [], s, i, d, _, _, h => by
    rcases h with ⟨d', h⟩ | h
    · cases h
    · exact h
  | a :: L, s, i, d, h1, h2, h => by
    rw [unlockS_cons]
    refine unlock_get (fun d' z => h1 d' (List.mem_cons_of_mem _ z)) (by rw [List.length_set]; exact h2) ?_
    rw [List.getElem?_set]
    by_cases c : a.1 = i
    · right
      rw [if_pos c, if_pos (by omega), h1 a.2 (by rw [← c]; exact List.mem_cons_self ..)]
    · rw [if_neg c]
      rcases h with ⟨d', h⟩ | h
      · rcases List.mem_cons.mp h with z | z
        · exact absurd (by rw [← z]) c
        · exact .inl ⟨d', z⟩
      · exact .inr h
theorem gtP_lt : ∀ {p : Pt} {i : Nat} {d : D}, gtP p i = some d → i < p.length
  | [], _, _, h => by cases h
  | _ :: _, 0, _, _ => Nat.zero_lt_succ _
  | _ :: p, i + 1, _, h => Nat.succ_lt_succ (gtP_lt (p := p) h)
theorem clP_get : ∀ {vs : List Nat} {p : Pt} {i : Nat} {d : D}, gtP (clP vs p) i = some d → i ∉ vs ∧ gtP p i = some d
  | [], _, _, _, h => ⟨by simp, h⟩
  | v :: vs, p, i, d, h => by
    have hh : gtP (stP (clP vs p) v none) i = some d := h
    have h : gtP (stP (clP vs p) v none) i = some d := h
    rw [gtP_stP] at h
    by_cases c : v = i ∧ v < (clP vs p).length
    · rw [if_pos c] at h; cases h
    · rw [if_neg c] at h
      obtain ⟨h1, h2⟩ := clP_get h
      refine ⟨fun z => ?_, h2⟩
      rcases List.mem_cons.mp z with rfl | z
      · exact c ⟨rfl, by have := gtP_lt hh; rw [stP_len] at this; exact this⟩
      · exact h1 z
theorem clr_get : ∀ {vs : List Nat} {s : Sg} {i : Nat}, i ∉ vs → (clrS vs s)[i]? = s[i]?
  | [], _, _, _ => rfl
  | v :: vs, s, i, h => by
    rw [clrS_cons, List.getElem?_set, if_neg (fun z => h (by rw [z]; exact List.mem_cons_self ..)), clr_get fun z => h (List.mem_cons_of_mem _ z)]
theorem cl_own {vs : List Nat} {p : Pt} {s s0 : Sg} (m : Mt p s) : Mt (clP vs p) (clrS vs (lockS (ownSl vs s0) s)) := by
  have e : ∀ vs : List Nat, (clP vs p).length = p.length := by
    intro vs
    induction vs with
    | nil => rfl
    | cons v vs ih => show (stP _ _ _).length = _; rw [stP_len, ih]
  refine ⟨by rw [e, clr_len, lock_len, m.len], fun i d h => ?_⟩
  obtain ⟨h1, h2⟩ := clP_get h
  rw [clr_get h1, lock_get fun d' z => h1 (own_mem.mp z).1]
  exact m.has i d h2
def lcS (F : σ → β → Option (Option δ × σ)) : List β → σ → Option (List δ × σ)
  | [], s => some ([], s)
  | y :: ys, s => (F s y).bind fun w => (lcS F ys w.2).bind fun r => some ((match w.1 with
    | some d => d :: r.1
    | none => r.1), r.2)
theorem comp_S {t : Tg} {c : T} {e : O} {vs : List Nat} {ey : β → D} {ee : δ → D} {qb : σ → Pt} {F : σ → β → Option (Option δ × σ)}
    (hs : ∀ u y w, F u y = some w → ∀ s, Mt (qb u) s → ∃ s1 s2 b, asg t (ey y) s = some s1 ∧ c s1 = .ok b s2 ∧ ((b = false ∧ w.1 = none ∧ Mt (qb w.2) (clrS vs s2)) ∨ (b = true ∧ ∃ d r s3, w.1 = some d ∧ e s2 = .ok r s3 ∧ own r s3 = some (ee d) ∧ Mt (qb w.2) (clrS vs s3)))) :
    ∀ (ys : List β) (u : σ) (acc : List D) (z : List δ × σ) (s : Sg), lcS F ys u = some z → acc.length + ys.length ≤ 1000000 → Mt (qb u) s → ∃ s', compL t c e vs (ys.map ey) acc s = .ok (acc ++ z.1.map ee) s' ∧ Mt (qb z.2) s'
  | [], u, acc, z, s, h, _, m => by cases h; exact ⟨s, by simp, m⟩
  | y :: ys, u, acc, z, s, h, hl, m => by
    obtain ⟨w, e1, e2⟩ := Option.bind_eq_some_iff.mp h
    obtain ⟨r, e3, e4⟩ := Option.bind_eq_some_iff.mp e2
    rw [List.length_cons] at hl
    obtain ⟨s1, s2, b, a1, a2, a3⟩ := hs u y w e1 s m
    rcases a3 with ⟨rfl, hw, m2⟩ | ⟨rfl, d, rr, s3, hw, b1, b2, m2⟩
    · obtain ⟨s', c1, c2⟩ := comp_S hs ys w.2 acc r _ e3 (by omega) m2
      cases e4
      refine ⟨s', ?_, c2⟩
      rw [hw]
      rw [List.map_cons, compL]
      simp only [a1, a2, ev_ok, Bool.false_eq_true, if_false, c1]
    · obtain ⟨s', c1, c2⟩ := comp_S hs ys w.2 (acc ++ [ee d]) r _ e3 (by rw [List.length_append, List.length_singleton]; omega) m2
      cases e4
      refine ⟨s', ?_, c2⟩
      rw [hw]
      rw [List.map_cons, compL]
      simp only [a1, a2, ev_ok, if_true, b1, b2]
      rw [if_pos (by omega), c1]
      simp
section
variable {p : Pt} {it : I} {ey : β → D} {ys : α → List β} {lk : α → List (Nat × D)} {q : α → Pt} {F : (α → Option γ) → Option γ} {t : Tg} {c : T} {e : O} {vs : List Nat} {ee : δ → D}
theorem x_compG {qb : α → σ → Pt} {s0 : α → σ} {G : α → σ → β → Option (Option δ × σ)} {p' : α → σ → Pt} (h : XI p it ey ys lk q F) (hv : nodupB vs = true) (h0 : ∀ x, Wk (qb x (s0 x)) (clP vs (lkP (lk x) (q x))))
    (hs : ∀ x u y w, G x u y = some w → ∀ s, Mt (qb x u) s → ∃ s1 s2 b, asg t (ey y) s = some s1 ∧ c s1 = .ok b s2 ∧ ((b = false ∧ w.1 = none ∧ Mt (qb x w.2) (clrS vs s2)) ∨ (b = true ∧ ∃ d r s3, w.1 = some d ∧ e s2 = .ok r s3 ∧ own r s3 = some (ee d) ∧ Mt (qb x w.2) (clrS vs s3))))
    (hp : ∀ x u, (p' x u).length = (qb x u).length ∧ (qb x u).length = (q x).length ∧ ∀ i d, gtP (p' x u) i = some d → gtP (q x) i = some d ∧ (i ∈ vs ∨ i ∈ (lk x).map (·.1)) ∨ gtP (qb x u) i = some d ∧ i ∉ vs ∧ i ∉ (lk x).map (·.1)) :
    X true p (oComp it t c e vs) (fun w : α × List δ × σ => eL ee w.2.1) (fun w => p' w.1 w.2.2) (fun k => F fun x => lim (ys x).length ((lcS (G x) (ys x) (s0 x)).bind fun z => k (x, z))) := fun k z e0 => by
  obtain ⟨x, e1, hx, h⟩ := h _ z e0
  unfold lim at e1
  by_cases hl : (ys x).length ≤ 1000000
  · rw [if_pos hl] at e1
    obtain ⟨w, e2, e3⟩ := Option.bind_eq_some_iff.mp e1
    refine ⟨(x, w), e3, fun s mm => ?_⟩
    obtain ⟨s1, a1, a2⟩ := h s mm
    obtain ⟨s2, b1, b2⟩ := comp_S (hs x) (ys x) (s0 x) [] w _ e2 (by simpa using hl) ((cl_own (vs := vs) (s0 := lockS (lk x) s1) (a2.lk (lk x))).wk (h0 x))
    refine ⟨.val (eL ee w.1), unlockS (ownSl vs (lockS (lk x) s1) ++ lk x) s2, ?_, ?_, .inl rfl⟩
    · unfold oComp
      rw [a1, ev_ok, if_pos (own_nodup hv), b1, ev_ok]
      rfl
    · obtain ⟨l1, l2, l3⟩ := hp x w.2
      refine ⟨by rw [unlock_len, l1, b2.len], fun i d hi => ?_⟩
      have hi2 : i < s2.length := by rw [← b2.len, ← l1]; exact gtP_lt hi
      refine unlock_get (fun d' z => ?_) hi2 ?_
      · rcases l3 i d hi with ⟨z1, z2⟩ | ⟨z1, z2, z3⟩
        · rcases List.mem_append.mp z with y | y
          · obtain ⟨y1, y2⟩ := own_mem.mp y
            by_cases c : ∃ d2, (i, d2) ∈ lk x
            · obtain ⟨d2, c⟩ := c
              have : ∀ (L : List (Nat × D)) (s : Sg), (i, d2) ∈ L → (lockS L s)[i]?.join = none := by
                intro L
                induction L with
                | nil => intro s z; cases z
                | cons a L ih =>
                  intro s z
                  rw [lockS_cons]
                  by_cases c2 : ∃ d3, (i, d3) ∈ L
                  · obtain ⟨d3, c2⟩ := c2
                    have : ∀ (L : List (Nat × D)) (s : Sg), ((s[i]?).join = none ∨ ∃ d3, (i, d3) ∈ L) → (lockS L s)[i]?.join = none := by
                      intro L
                      induction L with
                      | nil => intro s z; rcases z with z | ⟨_, z⟩; exact z; cases z
                      | cons b L ih =>
                        intro s z
                        rw [lockS_cons]
                        refine ih _ ?_
                        rw [List.getElem?_set]
                        by_cases c : b.1 = i
                        · left; rw [if_pos c]; split <;> rfl
                        · rw [if_neg c]
                          rcases z with z | ⟨d4, z⟩
                          · exact .inl z
                          · rcases List.mem_cons.mp z with z | z
                            · exact absurd (by rw [← z]) c
                            · exact .inr ⟨d4, z⟩
                    exact this L _ (.inr ⟨d3, c2⟩)
                  · rw [lock_get (fun d3 z => c2 ⟨d3, z⟩), List.getElem?_set]
                    rcases List.mem_cons.mp z with z | z
                    · have : a.1 = i := by rw [← z]
                      rw [if_pos this]; split <;> rfl
                    · exact absurd ⟨d2, z⟩ c2
              rw [this (lk x) s1 c] at y2
              cases y2
            · rw [lock_get (fun d3 z => c ⟨d3, z⟩)] at y2
              have := a2.get z1
              rw [y2] at this
              cases this; rfl
          · have := hx i d' y
            rw [z1] at this
            cases this; rfl
        · rcases List.mem_append.mp z with y | y
          · exact absurd (own_mem.mp y).1 z2
          · exact absurd (List.mem_map.mpr ⟨_, y, rfl⟩) z3
      · rcases l3 i d hi with ⟨z1, z2⟩ | ⟨z1, z2, z3⟩
        · left
          by_cases c : i ∈ (lk x).map (·.1)
          · obtain ⟨a, ha, hb⟩ := List.mem_map.mp c
            obtain ⟨a1', a2'⟩ := a
            have hb : a1' = i := hb
            subst hb
            exact ⟨a2', List.mem_append_right _ ha⟩
          · rcases z2 with z2 | z2
            · refine ⟨d, List.mem_append_left _ (own_mem.mpr ⟨z2, ?_⟩)⟩
              rw [lock_get (fun d3 z => c (List.mem_map.mpr ⟨_, z, rfl⟩))]
              exact a2.get z1
            · exact absurd z2 c
        · right; exact b2.has i d z1
  · rw [if_neg hl] at e1; cases e1
end
theorem clP_len : ∀ (vs : List Nat) (p : Pt), (clP vs p).length = p.length
  | [], _ => rfl
  | v :: vs, p => by show (stP _ _ _).length = _; rw [stP_len, clP_len vs]
theorem lkP_len : ∀ (L : List (Nat × D)) (p : Pt), (lkP L p).length = p.length
  | [], _ => rfl
  | a :: L, p => by show (lkP L (stP p a.1 none)).length = _; rw [lkP_len L, stP_len]
theorem clP_keep : ∀ {vs : List Nat} {p : Pt} {i : Nat}, i ∉ vs → gtP (clP vs p) i = gtP p i
  | [], _, _, _ => rfl
  | v :: vs, p, i, h => by
    show gtP (stP (clP vs p) v none) i = _
    rw [gtP_stP, if_neg, clP_keep fun z => h (List.mem_cons_of_mem _ z)]
    rintro ⟨z, _⟩
    exact h (by rw [z]; exact List.mem_cons_self ..)
theorem lkP_keep : ∀ {L : List (Nat × D)} {p : Pt} {i : Nat}, i ∉ L.map (·.1) → gtP (lkP L p) i = gtP p i
  | [], _, _, _ => rfl
  | a :: L, p, i, h => by
    show gtP (lkP L (stP p a.1 none)) i = _
    rw [lkP_keep (fun z => h (by rw [List.map_cons]; exact List.mem_cons_of_mem _ z)), gtP_stP, if_neg]
    rintro ⟨z, _⟩
    exact h (by rw [List.map_cons, z]; exact List.mem_cons_self ..)
section
variable {p : Pt} {it : I} {ey : β → D} {ys : α → List β} {lk : α → List (Nat × D)} {q : α → Pt} {F : (α → Option γ) → Option γ} {t : Tg} {c : T} {e : O} {vs : List Nat} {ee : δ → D}
theorem X.cvF {p : Pt} {g : O} {v : α → D} {q : α → Pt} {F F' : (α → Option γ) → Option γ} {vl : Bool} (h : X vl p g v q F) (e : F = F') : X vl p g v q F' := e ▸ h
theorem pureP {x : α} : (q x).length = (clP vs (lkP (lk x) (q x))).length ∧ (clP vs (lkP (lk x) (q x))).length = (q x).length ∧ ∀ i d, gtP (q x) i = some d → gtP (q x) i = some d ∧ (i ∈ vs ∨ i ∈ (lk x).map (·.1)) ∨ gtP (clP vs (lkP (lk x) (q x))) i = some d ∧ i ∉ vs ∧ i ∉ (lk x).map (·.1) := by
  have e : (clP vs (lkP (lk x) (q x))).length = (q x).length := by rw [clP_len, lkP_len]
  refine ⟨e.symm, e, fun i d hi => ?_⟩
  by_cases c : i ∈ vs ∨ i ∈ (lk x).map (·.1)
  · exact .inl ⟨hi, c⟩
  · have c1 : i ∉ vs := fun z => c (.inl z)
    have c2 : i ∉ (lk x).map (·.1) := fun z => c (.inr z)
    exact .inr ⟨by rw [clP_keep c1, lkP_keep c2, hi], c1, c2⟩
/-- nothing changes -/
theorem x_compP {vl : Bool} {pb : α → β → Pt} {cv : α → β → ε → Bool} {Fc : α → β → (ε → Option (Option δ × Unit)) → Option (Option δ × Unit)}
    {ev : α → β → ε → ζ → δ} {Fe : α → β → ε → (ζ → Option (Option δ × Unit)) → Option (Option δ × Unit)}
    (h : XI p it ey ys lk q F) (hv : nodupB vs = true) (hT : ∀ x y, As t (ey y) (clP vs (lkP (lk x) (q x))) (pb x y))
    (hc : ∀ x y, XT (pb x y) c (cv x y) (fun _ => pb x y) (Fc x y)) (he : ∀ x y w, X vl (pb x y) e (fun w2 => ee (ev x y w w2)) (fun _ => pb x y) (Fe x y w)) (ho : vl = true ∨ Pu ee)
    (hn : ∀ x y, Wk (clP vs (lkP (lk x) (q x))) (clP vs (pb x y))) :
    X true p (oComp it t c e vs) (fun w : α × List δ × Unit => eL ee w.2.1) (fun w => q w.1)
      (fun k => F fun x => lim (ys x).length ((lcS (fun _ y => Fc x y fun w => if cv x y w = true then Fe x y w fun w2 => some (some (ev x y w w2), ()) else some (none, ())) (ys x) ()).bind fun z => k (x, z))) :=
  x_compG (G := fun x _ y => Fc x y fun w => if cv x y w = true then Fe x y w fun w2 => some (some (ev x y w w2), ()) else some (none, ())) (qb := fun x _ => clP vs (lkP (lk x) (q x))) (s0 := fun _ => ()) (p' := fun x _ => q x) h hv (fun x => Wk.refl _) (fun x u y w e1 s m => by
    obtain ⟨s1, a1, a2⟩ := hT x y s m
    obtain ⟨w1, e2, hc⟩ := hc x y _ _ e1
    obtain ⟨s2, b1, b2⟩ := hc s1 a2
    refine ⟨s1, s2, _, a1, b1, ?_⟩
    cases hb : cv x y w1 with
    | false =>
      rw [if_neg (by simp [hb])] at e2
      cases e2
      exact .inl ⟨rfl, rfl, (b2.cl vs).wk (hn x y)⟩
    | true =>
      rw [if_pos hb] at e2
      obtain ⟨w2, e3, he⟩ := he x y w1 _ _ e2
      obtain ⟨r, s3, c1, c2, c3⟩ := he s2 b2
      cases e3
      exact .inr ⟨rfl, _, r, s3, rfl, c1, c3.own c2 (ho.imp id fun z => z _), (c2.cl vs).wk (hn x y)⟩) (fun x u => pureP)
theorem lcS_map (f : β → δ) : ∀ ys : List β, lcS (fun (_ : Unit) y => some (some (f y), ())) ys () = some (ys.map f, ())
  | [] => rfl
  | y :: ys => by
    show (lcS _ ys ()).bind _ = _
    rw [lcS_map f ys]; rfl
def mapO (f : β → Option δ) : List β → Option (List δ)
  | [] => some []
  | y :: ys => (f y).bind fun z => (mapO f ys).bind fun zs => some (z :: zs)
theorem mapO_some {f : β → Option δ} {g : β → δ} : ∀ {ys : List β}, (∀ y ∈ ys, f y = some (g y)) → mapO f ys = some (ys.map g)
  | [], _ => rfl
  | y :: ys, h => by
    rw [mapO, h y (List.mem_cons_self ..), mapO_some fun z hz => h z (List.mem_cons_of_mem _ hz)]; rfl
/-- every one, each sure to be told -/
theorem x_mapT {vl : Bool} {pb : α → β → Pt} {ev : α → β → ζ → δ} {y1 : α → β → ζ}
    (h : XI p it ey ys lk q F) (hv : nodupB vs = true) (hT : ∀ x y, As t (ey y) (clP vs (lkP (lk x) (q x))) (pb x y))
    (he : ∀ x y, X (γ := Option δ × Unit) vl (pb x y) e (fun w2 => ee (ev x y w2)) (fun _ => pb x y) (fun k => k (y1 x y))) (ho : vl = true ∨ Pu ee)
    (hn : ∀ x y, Wk (clP vs (lkP (lk x) (q x))) (clP vs (pb x y))) :
    X true p (oComp it t tYesT e vs) (fun w : α × List δ × Unit => eL ee w.2.1) (fun w => q w.1) (fun k => F fun x => lim (ys x).length (k (x, (ys x).map (fun y => ev x y (y1 x y)), ()))) := by
  refine (x_compP (cv := fun _ _ (_ : Unit) => true) (ev := fun x y _ => ev x y) h hv hT (fun x y => xt_yes) (fun x y _ => he x y) ho hn).cvF (funext fun k => congrArg F (funext fun x => congrArg (lim _) ?_))
  have := lcS_map (fun y => ev x y (y1 x y)) (ys x)
  show (lcS (fun _ y => some (some (ev x y (y1 x y)), ())) (ys x) ()).bind _ = _
  rw [this]; rfl
/-- every one, each perhaps told -/
theorem x_mapP {vl : Bool} {pb : α → β → Pt} {ev : α → β → ζ → δ} {Fe : α → β → (ζ → Option (Option δ × Unit)) → Option (Option δ × Unit)}
    (h : XI p it ey ys lk q F) (hv : nodupB vs = true) (hT : ∀ x y, As t (ey y) (clP vs (lkP (lk x) (q x))) (pb x y))
    (he : ∀ x y, X vl (pb x y) e (fun w2 => ee (ev x y w2)) (fun _ => pb x y) (Fe x y)) (ho : vl = true ∨ Pu ee) (Ge : α → β → Option δ)
    (hn : ∀ x y, Wk (clP vs (lkP (lk x) (q x))) (clP vs (pb x y))) (hg : ∀ x y z, Ge x y = some z → Fe x y (fun w2 => some (some (ev x y w2), ())) = some (some z, ())) :
    X true p (oComp it t tYesT e vs) (fun w : α × List δ × Unit => eL ee w.2.1) (fun w => q w.1) (fun k => F fun x => lim (ys x).length ((mapO (Ge x) (ys x)).bind fun zs => k (x, zs, ()))) := by
  have key : ∀ (x : α) (l : List β), lcS (fun (_ : Unit) y => (Ge x y).bind fun z => some (some z, ())) l () = (mapO (Ge x) l).bind fun zs => some (zs, ()) := by
    intro x l
    induction l with
    | nil => rfl
    | cons y l ih =>
      show ((Ge x y).bind _).bind _ = ((Ge x y).bind _).bind _
      cases h : Ge x y with
      | none => rfl
      | some z =>
        rw [Option.bind_some, Option.bind_some, Option.bind_some, ih]
        cases h2 : mapO (Ge x) l <;> rfl
  have hh := x_compG (γ := γ) (e := e) (ee := ee) (c := tYesT) (G := fun x (_ : Unit) y => (Ge x y).bind fun z => some (some z, ())) (qb := fun x _ => clP vs (lkP (lk x) (q x))) (s0 := fun _ => ()) (p' := fun x _ => q x) h hv (fun x => Wk.refl _) (fun x u y w e1 s m => by
    obtain ⟨s1, a1, a2⟩ := hT x y s m
    obtain ⟨z, e2, e3⟩ := Option.bind_eq_some_iff.mp e1
    cases e3
    obtain ⟨w2, e4, he⟩ := he x y _ _ (hg x y z e2)
    obtain ⟨r, s3, c1, c2, c3⟩ := he s1 a2
    have e5 : ev x y w2 = z := by cases e4; rfl
    refine ⟨s1, s1, true, a1, rfl, .inr ⟨rfl, z, r, s3, rfl, c1, ?_, (c2.cl vs).wk (hn x y)⟩⟩
    rw [c3.own c2 (ho.imp id fun z => z _)]
    show some (ee (ev x y w2)) = _
    rw [e5]) (fun x u => pureP)
  refine hh.cvF (funext fun k => congrArg F (funext fun x => congrArg (lim _) ?_))
  show (lcS (fun (_ : Unit) y => (Ge x y).bind fun z => some (some z, ())) (ys x) ()).bind _ = _
  rw [key x (ys x)]
  cases mapO (Ge x) (ys x) <;> rfl
end
end
end Sim
namespace Sim
open PySem PySem.Spec L2
section
variable {α β δ : Type}
structure Eqv [DecidableEq α] (n : Nat) (e : α → D) : Prop where
  lay : ∀ x, PyData.canLay0 (e x) = true
  dep : ∀ x, PyData.depth (e x) ≤ n
  nod : ∀ x, noD (e x) = true
  eq : ∀ x y, PyData.eqv (e x) (e y) = decide (x = y)
theorem eqI : Eqv 0 eI := ⟨fun _ => rfl, fun _ => Nat.le_refl _, fun _ => rfl, fun x y => by simp [PyData.eqv]; rfl⟩
theorem eqv_all [DecidableEq α] {n : Nat} {e : α → D} (h : Eqv n e) : ∀ xs ys : List α, PyData.eqvAll (xs.map e) (ys.map e) = decide (xs = ys)
  | [], [] => by simp [PyData.eqvAll]
  | [], _ :: _ => by simp [PyData.eqvAll]
  | _ :: _, [] => by simp [PyData.eqvAll]
  | x :: xs, y :: ys => by
    rw [List.map_cons, List.map_cons, PyData.eqvAll, h.eq, eqv_all h xs ys, Bool.eq_iff_iff]
    simp
theorem lay_all {n : Nat} [DecidableEq α] {e : α → D} (h : Eqv n e) : ∀ xs : List α, PyData.canLayAll0 (xs.map e) = true ∧ PyData.depthAll (xs.map e) ≤ n ∧ noDs (xs.map e) = true
  | [] => ⟨rfl, Nat.zero_le _, rfl⟩
  | x :: xs => by
    obtain ⟨a, b, c⟩ := lay_all h xs
    refine ⟨?_, ?_, ?_⟩
    · rw [List.map_cons, PyData.canLayAll0, h.lay, a]; rfl
    · rw [List.map_cons, PyData.depthAll]; exact Nat.max_le.mpr ⟨h.dep x, b⟩
    · rw [List.map_cons, noDs, h.nod, c]; rfl
theorem eqL [DecidableEq α] {n : Nat} {e : α → D} (h : Eqv n e) : Eqv (n + 1) (eL e) :=
  ⟨fun x => by rw [eL, PyData.canLay0]; exact (lay_all h x).1, fun x => by rw [eL, PyData.depth]; have := (lay_all h x).2.1; omega, fun x => by rw [eL, noD]; exact (lay_all h x).2.2, fun x y => by rw [eL, eL, PyData.eqv, eqv_all h]⟩
theorem eqT [DecidableEq α] {n : Nat} {e : α → D} (h : Eqv n e) : Eqv (n + 1) (eT e) :=
  ⟨fun x => by rw [eT, PyData.canLay0]; exact (lay_all h x).1, fun x => by rw [eT, PyData.depth]; have := (lay_all h x).2.1; omega, fun x => by rw [eT, noD]; exact (lay_all h x).2.2, fun x y => by rw [eT, eT, PyData.eqv, eqv_all h]⟩
theorem eqP [DecidableEq α] [DecidableEq β] {n m : Nat} {a : α → D} {b : β → D} (h : Eqv n a) (h2 : Eqv m b) : Eqv (max n m + 1) (eP a b) :=
  ⟨fun x => by simp [eP, PyData.canLay0, PyData.canLayAll0, h.lay, h2.lay], fun x => by simp [eP, PyData.depth, PyData.depthAll]; have := h.dep x.1; have := h2.dep x.2; omega, fun x => by simp [eP, noD, noDs, h.nod, h2.nod],
   fun x y => by
    obtain ⟨x1, x2⟩ := x
    obtain ⟨y1, y2⟩ := y
    rw [eP, eP, PyData.eqv, PyData.eqvAll, PyData.eqvAll, PyData.eqvAll, h.eq, h2.eq, Bool.eq_iff_iff]
    simp⟩
theorem Eqv.shp [DecidableEq α] {n : Nat} {e : α → D} (h : Eqv n e) (z : n ≤ 64) (x : α) : shp (e x) = true := by
  have := h.dep x
  simp only [Sim.shp, SeqAt.shaped, h.lay, h.nod, Bool.true_and, Bool.and_true, decide_eq_true_eq]
  omega
theorem op_eq [DecidableEq α] {n : Nat} {e : α → D} (h : Eqv n e) (z : n ≤ 64) (x y : α) : pEq [e x, e y] = some (.bool (decide (x = y))) := by
  rw [ev_eq, if_pos ⟨h.shp z x, h.shp z y⟩, h.eq]
theorem op_ne [DecidableEq α] {n : Nat} {e : α → D} (h : Eqv n e) (z : n ≤ 64) (x y : α) : pNe [e x, e y] = some (.bool (!decide (x = y))) := by
  rw [ev_ne, if_pos ⟨h.shp z x, h.shp z y⟩, h.eq]
theorem op_add (i j : Int) : pAdd [.int i, .int j] = some (.int (i + j)) := rfl
theorem op_sub' (i j : Int) : pSub [.int i, .int j] = some (.int (i - j)) := rfl
theorem op_neg (i : Int) : pNeg [.int i] = some (.int (-i)) := rfl
theorem op_lt' (i j : Int) : pLt [.int i, .int j] = some (.bool (decide (i < j))) := rfl
theorem op_gt' (i j : Int) : pGt [.int i, .int j] = some (.bool (decide (j < i))) := rfl
theorem op_ge' (i j : Int) : pGe [.int i, .int j] = some (.bool (decide (j ≤ i))) := rfl
theorem op_mulL {a b : Int} (h : -(2 ^ 64) < a ∧ a < 2 ^ 64) : pMul [.int a, .int b] = some (.int (a * b)) := by
  rw [ev_mul, if_pos (mulOk_l h.1 h.2)]
theorem op_mulR {a b : Int} (h : -(2 ^ 64) < b ∧ b < 2 ^ 64) : pMul [.int a, .int b] = some (.int (a * b)) := by
  rw [ev_mul, if_pos (mulOk_r h.1 h.2)]
theorem op_mulB (a : Int) (b : Bool) : pMul [.int a, .int (if b = true then 1 else 0)] = some (.int (a * (if b = true then 1 else 0))) :=
  op_mulR (by cases b <;> decide)
def mulT (a b : Int) : Option Int := if mulOk a b = true then some (a * b) else none
theorem op_mul {a b z : Int} (h : mulT a b = some z) : pMul [.int a, .int b] = some (.int z) := by
  unfold mulT at h
  split at h
  · rename_i c; cases h; rw [ev_mul, if_pos c]
  · cases h
theorem op_divC {i c : Int} (h : 0 < c ∧ c.natAbs.log2 < 9000) : pDiv [.int i, .int c] = some (.int (i / c)) := by rw [ev_div, if_pos h]
theorem op_modC {i c : Int} (h : 0 < c) : pMod [.int i, .int c] = some (.int (i % c)) := by rw [ev_mod, if_pos h]
def divT (a b : Int) : Option Int := if 0 < b ∧ b.natAbs.log2 < 9000 then some (a / b) else none
theorem op_div {a b z : Int} (h : divT a b = some z) : pDiv [.int a, .int b] = some (.int z) := by
  unfold divT at h
  split at h
  · rename_i c; cases h; rw [ev_div, if_pos c]
  · cases h
def modT (a b : Int) : Option Int := if 0 < b then some (a % b) else none
theorem op_mod' {a b z : Int} (h : modT a b = some z) : pMod [.int a, .int b] = some (.int z) := by
  unfold modT at h
  split at h
  · rename_i c; cases h; rw [ev_mod, if_pos c]
  · cases h
theorem op_powC {a b c : Int} (h : 0 ≤ b ∧ b ≤ 1000000 ∧ a.natAbs < 2 ^ 64) (e : a ^ b.toNat = c) : pPow [.int a, .int b] = some (.int c) := by rw [ev_pow, if_pos h, e]
theorem op_max2 (i j : Int) : pMax2 [.int i, .int j] = some (.int (max i j)) := rfl
theorem op_min2 (i j : Int) : pMin2 [.int i, .int j] = some (.int (min i j)) := rfl
theorem op_intB (b : Bool) : pInt [.bool b] = some (.int (if b = true then 1 else 0)) := rfl
theorem atI_map {e : α → D} {xs : List α} {i : Int} {z : α} (h : atI xs i = some z) : atI (xs.map e) i = some (e z) := by
  unfold atI at h ⊢
  obtain ⟨j, h1, h2⟩ := Option.bind_eq_some_iff.mp h
  rw [List.length_map, h1]
  show (xs.map e)[j]? = _
  rw [List.getElem?_map, h2]; rfl
theorem op_ixL {e : α → D} (p : Pu e) {xs : List α} {i : Int} {z : α} (h : atI xs i = some z) : pIx [eL e xs, .int i] = some (e z) := by
  rw [eL, ev_ixL, atI_map h, ev_puO, if_pos (p z)]
theorem op_ixT {e : α → D} (p : Pu e) {xs : List α} {i : Int} {z : α} (h : atI xs i = some z) : pIx [eT e xs, .int i] = some (e z) := by
  rw [eT, ev_ixT, atI_map h, ev_puO, if_pos (p z)]
theorem op_ixZ {xs : List Int} {i z : Int} (h : atI xs i = some z) : pIx [eZ xs, .int i] = some (.int z) := by
  rw [eZ, ev_ixF, atI_map h, ev_puO, if_pos (pur_int _)]
def atP (x : α × α) (i : Int) : Option α := atI [x.1, x.2] i
theorem op_ixPd {a : α → D} (p : Pu a) {x : α × α} {i : Int} {z : α} (h : atP x i = some z) : pIx [eP a a x, .int i] = some (a z) :=
  op_ixT (xs := [x.1, x.2]) p h
theorem op_ixQ0 {a : α → D} {b : β → D} {c : δ → D} (p : Pu a) (x : α × β × δ) : pIx [eQ a b c x, .int 0] = some (a x.1) := by
  show puO (some (a x.1)) = _
  rw [ev_puO, if_pos (p _)]
theorem op_ixQ1 {a : α → D} {b : β → D} {c : δ → D} (p : Pu b) (x : α × β × δ) : pIx [eQ a b c x, .int 1] = some (b x.2.1) := by
  show puO (some (b x.2.1)) = _
  rw [ev_puO, if_pos (p _)]
theorem op_ixQ2 {a : α → D} {b : β → D} {c : δ → D} (p : Pu c) (x : α × β × δ) : pIx [eQ a b c x, .int 2] = some (c x.2.2) := by
  show puO (some (c x.2.2)) = _
  rw [ev_puO, if_pos (p _)]
theorem op_lenL {e : α → D} (xs : List α) : pLen [eL e xs] = some (.int (xs.length : Int)) := by rw [eL, ev_lenL, List.length_map]
theorem op_lenT {e : α → D} (xs : List α) : pLen [eT e xs] = some (.int (xs.length : Int)) := by rw [eT, ev_lenT, List.length_map]
theorem op_lenZ (xs : List Int) : pLen [eZ xs] = some (.int (xs.length : Int)) := by rw [eZ, ev_lenF, List.length_map]
theorem op_tupL {e : α → D} (p : Pu e) (xs : List α) : pTuple [eL e xs] = some (eT e xs) := by rw [eL, ev_tupL, if_pos (purs_pu p xs)]; rfl
theorem op_lstT {e : α → D} (p : Pu e) (xs : List α) : pList [eT e xs] = some (eL e xs) := by rw [eT, ev_lstT, if_pos (purs_pu p xs)]; rfl
def catT (xs ys : List α) : Option (List α) := if xs.length + ys.length ≤ 1000000 then some (xs ++ ys) else none
theorem op_catL {e : α → D} (p : Pu e) {xs ys z : List α} (h : catT xs ys = some z) : pAdd [eL e xs, eL e ys] = some (eL e z) := by
  unfold catT at h
  split at h
  · rename_i c; cases h; rw [eL, eL, ev_addL, if_pos ⟨by simpa using c, purs_pu p _, purs_pu p _⟩, ← List.map_append]; rfl
  · cases h
def repT (xs : List α) (n : Int) : Option (List α) := if -1000 ≤ n ∧ n ≤ 1000 ∧ xs.length ≤ 1000 then some (List.replicate n.toNat xs).flatten else none
theorem op_repL {e : α → D} (p : Pu e) {xs z : List α} {n : Int} (h : repT xs n = some z) : pMul [eL e xs, .int n] = some (eL e z) := by
  unfold repT at h
  split at h
  · rename_i c
    cases h
    obtain ⟨c1, c2, c3⟩ := c
    show (if n < 2 ^ 63 ∧ -(2 ^ 63) ≤ n ∧ (xs.map e).length * n.toNat ≤ 1000000 ∧ purs (xs.map e) = true then _ else _) = _
    rw [if_pos ⟨by omega, by omega, by rw [List.length_map]; exact Nat.le_trans (Nat.mul_le_mul c3 (show n.toNat ≤ 1000 by omega)) (by decide), purs_pu p xs⟩]
    simp [eL]
  · cases h
theorem op_repT' {e : α → D} (p : Pu e) {xs z : List α} {n : Int} (h : repT xs n = some z) : pMul [eT e xs, .int n] = some (eT e z) := by
  unfold repT at h
  split at h
  · rename_i c
    cases h
    obtain ⟨c1, c2, c3⟩ := c
    show (if -1000 ≤ n ∧ n ≤ 1000 ∧ (xs.map e).length ≤ 1000 ∧ purs (xs.map e) = true then _ else _) = _
    rw [if_pos ⟨c1, c2, by rw [List.length_map]; exact c3, purs_pu p xs⟩]
    simp [eT]
  · cases h
theorem op_revP {a : α → D} {b : β → D} (p : Pu a) (p2 : Pu b) (x : α × β) : stD (eP a b x) none none (some (-1)) = some (eP b a (x.2, x.1)) := by
  show (if purs [a x.1, b x.2] = true ∧ [a x.1, b x.2].length ≤ 1000000 then some (PyData.tuple [a x.1, b x.2].reverse) else none) = _
  rw [if_pos ⟨by simp [p x.1, p2 x.2], by simp⟩]; rfl
theorem op_inP (a : Int) (x : Int × Int) : pIn [.int a, eP eI eI x] = some (.bool (decide (x.1 = a) || decide (x.2 = a))) := by
  rw [eP, ev_inT, if_pos ⟨rfl, rfl⟩]
  show some (PyData.bool (PyData.eqv (.int x.1) (.int a) || (PyData.eqv (.int x.2) (.int a) || false))) = _
  rw [eqI.eq, eqI.eq, Bool.or_false]
def rngI (lo : Int) (n : Nat) : List Int := (List.range n).map fun i => lo + (i : Nat)
theorem rngD_I (lo : Int) (n : Nat) : rngD lo n = (rngI lo n).map eI := by unfold rngD rngI; simp
def rngO (j : Int) : Option (List Int) := if -1000000 < j ∧ j < 1000000 then some (rngI 0 j.toNat) else none
theorem it_r1 {j : Int} {z : List Int} (h : rngO j = some z) : itR1 [.int j] = some (z.map eI) := by
  unfold rngO at h
  split at h
  · rename_i c
    cases h
    show (if -1000000 < j ∧ j < 1000000 then some (rngD 0 j.toNat) else none) = _
    rw [if_pos c, rngD_I]
  · cases h
theorem op_trg1 {j : Int} {z : List Int} (h : rngO j = some z) : pTupleRg [.int j] = some (eT eI z) := by
  unfold rngO at h
  split at h
  · rename_i c
    cases h
    show (if -1000000 < j ∧ j < 1000000 then some (PyData.tuple (rngD 0 j.toNat)) else none) = _
    rw [if_pos c, rngD_I]; rfl
  · cases h
theorem it_L {e : α → D} (xs : List α) : itP [eL e xs] = some (xs.map e) := rfl
theorem it_T {e : α → D} (xs : List α) : itP [eT e xs] = some (xs.map e) := rfl
def enumT : Nat → List α → List (Int × α)
  | _, [] => []
  | n, x :: xs => ((n : Int), x) :: enumT (n + 1) xs
theorem enumD_T {e : α → D} : ∀ (n : Nat) (xs : List α), enumD n (xs.map e) = (enumT n xs).map (eP eI e)
  | _, [] => rfl
  | n, x :: xs => by rw [List.map_cons, enumD, enumD_T (n + 1) xs]; rfl
theorem it_eT {e : α → D} (xs : List α) : itE [eT e xs] = some ((enumT 0 xs).map (eP eI e)) := by
  show some (enumD 0 (xs.map e)) = _
  rw [enumD_T]
def appT (xs : List α) (x : α) : Option (List α) := if xs.length < 1000000 then some (xs ++ [x]) else none
theorem mt_app' {e : α → D} {xs : List α} {x : α} {z : List α} (h : appT xs x = some z) : mApp (xs.map e) [e x] = some (z.map e, .none) := by
  unfold appT at h
  split at h
  · rename_i c; cases h; show (if (xs.map e).length < 1000000 then _ else _) = _; rw [List.length_map, if_pos c, List.map_append]; rfl
  · cases h
def insT (xs : List α) (i : Int) (x : α) : Option (List α) := if xs.length < 1000000 ∧ 0 ≤ i ∧ i < 1000000 then some (xs.take i.toNat ++ [x] ++ xs.drop i.toNat) else none
theorem mt_ins' {e : α → D} (p : Pu e) {xs : List α} {i : Int} {x : α} {z : List α} (h : insT xs i x = some z) : mIns (xs.map e) [.int i, e x] = some (z.map e, .none) := by
  unfold insT at h
  split at h
  · rename_i c
    cases h
    show (if (xs.map e).length < 1000000 ∧ 0 ≤ i ∧ i < 1000000 ∧ pur (e x) = true ∧ purs (xs.map e) = true then _ else _) = _
    rw [List.length_map, if_pos ⟨c.1, c.2.1, c.2.2, p x, purs_pu p xs⟩]
    simp
  · cases h
theorem mt_ext' {e : α → D} (p : Pu e) {xs ys z : List α} (h : catT xs ys = some z) : mExt (xs.map e) [eL e ys] = some (z.map e, .none) := by
  unfold catT at h
  split at h
  · rename_i c
    cases h
    show (if purs (xs.map e) = true ∧ purs (ys.map e) = true ∧ (xs.map e).length + (ys.map e).length ≤ 1000000 then _ else _) = _
    rw [if_pos ⟨purs_pu p xs, purs_pu p ys, by simpa using c⟩, List.map_append]
  · cases h
def idxT (xs : List Int) (y : Int) : Option Int := (xs.findIdx? fun z => decide (z = y)).map fun (j : Nat) => (j : Int)
theorem op_idx {xs : List Int} {y z : Int} (h : idxT xs y = some z) : pIndexT [.tuple (xs.map eI), .int y] = some (.int z) := by
  unfold idxT at h
  obtain ⟨j, h1, h2⟩ := Option.map_eq_some_iff.mp h
  cases h2
  show (if pIn.fl (.int y) = true ∧ (xs.map PyData.int).all pIn.fl = true then _ else _) = _
  rw [if_pos ⟨rfl, by simp [pIn.fl]⟩, List.findIdx?_map]
  have : (fun z => PyData.eqv z (PyData.int y)) ∘ PyData.int = fun z : Int => decide (z = y) := by
    funext z; simp [PyData.eqv]; rfl
  rw [this, h1]; rfl
end
end Sim
namespace Sim
open PySem PySem.Spec L2
end Sim
namespace Sim
open PySem PySem.Spec L2
def Sp {α : Type} (m : Option α) (Q : α → Prop) : Prop := ∃ x, m = some x ∧ Q x
section
variable {α β γ σ ρ τ δ : Type}
theorem Sp.mono {m : Option α} {P Q : α → Prop} (h : Sp m P) (i : ∀ x, P x → Q x) : Sp m Q := by
  obtain ⟨x, e, p⟩ := h
  exact ⟨x, e, i x p⟩
theorem w_some {x : α} {Q : α → Prop} (h : Q x) : Sp (some x) Q := ⟨x, rfl, h⟩
theorem w_bind {m : Option α} {k : α → Option β} {P : α → Prop} {Q : β → Prop} (h : Sp m P) (h2 : ∀ x, P x → Sp (k x) Q) : Sp (m.bind k) Q := by
  obtain ⟨x, rfl, p⟩ := h
  exact h2 x p
theorem w_let {x : α} {k : α → Option β} {Q : β → Prop} (h2 : ∀ y, y = x → Sp (k y) Q) : Sp ((some x).bind k) Q := h2 x rfl
theorem w_ite {c : Bool} {a b : Option α} {Q : α → Prop} (h1 : c = true → Sp a Q) (h2 : c = false → Sp b Q) : Sp (if c = true then a else b) Q := by
  cases c with
  | true => exact h1 rfl
  | false => exact h2 rfl
theorem w_lpN {F : σ → β → Option σ} (I : Nat → σ → Prop) {ys : List β} {s0 : σ} (h0 : I 0 s0) (hs : ∀ i s y, ys[i]? = some y → I i s → Sp (F s y) (I (i + 1))) : Sp (lpN F ys s0) (I ys.length) := by
  have key : ∀ (zs : List β) (k : Nat) (s : σ), I k s → (∀ i s y, zs[i]? = some y → I (k + i) s → Sp (F s y) (I (k + i + 1))) → Sp (lpN F zs s) (I (k + zs.length)) := by
    intro zs
    induction zs with
    | nil => intro k s h _; exact ⟨s, rfl, h⟩
    | cons y zs ih =>
      intro k s h hs
      refine w_bind (hs 0 s y rfl h) fun s1 h1 => ?_
      have := ih (k + 1) s1 h1 fun i s y hy hi => by
        have := hs (i + 1) s y (by simpa using hy) (by rw [show k + (i + 1) = k + 1 + i by omega]; exact hi)
        rw [show k + (i + 1) + 1 = k + 1 + i + 1 by omega] at this
        exact this
      rw [show k + 1 + zs.length = k + (y :: zs).length by rw [List.length_cons]; omega] at this
      exact this
  have := key ys 0 s0 h0 fun i s y hy hi => by simpa using hs i s y hy (by simpa using hi)
  simpa using this
/-- of a loop that may leave: it goes on to its end -/
def Go (P : σ → Prop) : Lf σ ρ → Prop := fun w => ∃ s, w = .go s ∧ P s
theorem w_go {x : σ} {P : σ → Prop} (h : P x) : Sp (some (Lf.go x : Lf σ ρ)) (Go P) := ⟨_, rfl, x, rfl, h⟩
theorem w_lpR {F : σ → β → Option (Lf σ ρ)} (I : Nat → σ → Prop) {ys : List β} {s0 : σ} (h0 : I 0 s0) (hs : ∀ i s y, ys[i]? = some y → I i s → Sp (F s y) (Go (I (i + 1)))) : Sp (lpR F ys s0) (Go (I ys.length)) := by
  have key : ∀ (zs : List β) (k : Nat) (s : σ), I k s → (∀ i s y, zs[i]? = some y → I (k + i) s → Sp (F s y) (Go (I (k + i + 1)))) → Sp (lpR F zs s) (Go (I (k + zs.length))) := by
    intro zs
    induction zs with
    | nil => intro k s h _; exact ⟨_, rfl, s, rfl, h⟩
    | cons y zs ih =>
      intro k s h hs
      refine w_bind (hs 0 s y rfl h) fun w hw => ?_
      obtain ⟨s1, rfl, h1⟩ := hw
      have := ih (k + 1) s1 h1 fun i s y hy hi => by
        have := hs (i + 1) s y (by simpa using hy) (by rw [show k + (i + 1) = k + 1 + i by omega]; exact hi)
        rw [show k + (i + 1) + 1 = k + 1 + i + 1 by omega] at this
        exact this
      rw [show k + 1 + zs.length = k + (y :: zs).length by rw [List.length_cons]; omega] at this
      exact this
  have := key ys 0 s0 h0 fun i s y hy hi => by simpa using hs i s y hy (by simpa using hi)
  simpa using this
theorem w_on {m : Option (Lf σ ρ)} {f : σ → Option τ} {g : ρ → Option τ} {P : σ → Prop} {Q : τ → Prop} (h : Sp m (Go P)) (h2 : ∀ s, P s → Sp (f s) Q) : Sp (m.bind fun w => w.on f g) Q := by
  obtain ⟨w, rfl, s, rfl, hp⟩ := h
  exact h2 s hp
theorem mapO_eq {f : β → Option δ} {g : β → δ} {ys : List β} (h : ∀ y ∈ ys, f y = some (g y)) : mapO f ys = some (ys.map g) := mapO_some h
theorem ixN_nn {n : Nat} {i : Int} (h0 : 0 ≤ i) (h : i < n) : ixN n i = some i.toNat := by unfold ixN; rw [if_pos h0, if_pos h]
theorem atI_nn {xs : List α} {i : Int} (h0 : 0 ≤ i) (h : i < xs.length) : atI xs i = xs[i.toNat]? := by
  unfold atI; rw [ixN_nn h0 h]; rfl
theorem atI_get' {xs : List α} {i : Int} (h0 : 0 ≤ i) (h : i < xs.length) : atI xs i = some (xs[i.toNat]'(by omega)) := by
  rw [atI_nn h0 h, List.getElem?_eq_getElem]
theorem atI_D {xs : List α} {i : Int} (d : α) (h0 : 0 ≤ i) (h : i < xs.length) : atI xs i = some (xs.getD i.toNat d) := by
  rw [atI_nn h0 h, List.getD_eq_getElem?_getD, List.getElem?_eq_getElem (by omega)]; rfl
theorem w_atI {xs : List α} {i : Int} (h0 : 0 ≤ i) (h : i < xs.length) : Sp (atI xs i) (fun x => x ∈ xs) := by
  rw [atI_get' h0 h]; exact w_some (List.getElem_mem _)
theorem atI_lastne {xs : List α} (h : xs ≠ []) : atI xs (-1) = some (xs.getLast h) := by
  have e := List.dropLast_concat_getLast h
  have z := L2.atI_last xs.dropLast (xs.getLast h)
  rw [e] at z; exact z
theorem setT_nn {xs : List α} {i : Int} {v : α} (h0 : 0 ≤ i) (h : i < xs.length) : setT xs i v = some (xs.set i.toNat v) := by unfold setT; rw [ixN_nn h0 h]; rfl
theorem appT_of {xs : List α} {x : α} (h : xs.length < 1000000) : appT xs x = some (xs ++ [x]) := if_pos h
theorem catT_of {xs ys : List α} (h : xs.length + ys.length ≤ 1000000) : catT xs ys = some (xs ++ ys) := if_pos h
theorem rngO_of {j : Int} (h : -1000000 < j ∧ j < 1000000) : rngO j = some (rngI 0 j.toNat) := if_pos h
theorem modT_of {a b : Int} (h : 0 < b) : modT a b = some (a % b) := if_pos h
theorem divT_of {a b : Int} (h : 0 < b) (h2 : b < 1000000000000000000000000) : divT a b = some (a / b) := by
  refine if_pos ⟨h, Nat.lt_of_lt_of_le (log2_lt (k := 80) (by omega) (by decide)) (by decide)⟩
theorem mulT_l {a b : Int} (h : -(2 ^ 64) < a) (h2 : a < 2 ^ 64) : mulT a b = some (a * b) := by unfold mulT; rw [if_pos (mulOk_l h h2)]
theorem mulT_r {a b : Int} (h : -(2 ^ 64) < b) (h2 : b < 2 ^ 64) : mulT a b = some (a * b) := by unfold mulT; rw [if_pos (mulOk_r h h2)]
theorem repT_of {xs : List α} {n : Int} (h : -1000 ≤ n ∧ n ≤ 1000) (h2 : xs.length ≤ 1000) : repT xs n = some (List.replicate n.toNat xs).flatten := if_pos ⟨h.1, h.2, h2⟩
theorem repT_1 {x : α} {n : Int} (h : -1000 ≤ n ∧ n ≤ 1000) : repT [x] n = some (List.replicate n.toNat x) := by
  rw [repT_of h (by simp)]
  have : ∀ k : Nat, (List.replicate k [x]).flatten = List.replicate k x := by
    intro k
    induction k with
    | zero => rfl
    | succ k ih => rw [List.replicate_succ, List.flatten_cons, ih]; rfl
  rw [this]
theorem insT_of {xs : List α} {i : Int} {x : α} (h : xs.length < 1000000) (h0 : 0 ≤ i) (h1 : i < 1000000) : insT xs i x = some (xs.take i.toNat ++ [x] ++ xs.drop i.toNat) := if_pos ⟨h, h0, h1⟩
@[simp] theorem at0 (a : α) (l : List α) : atI (a :: l) 0 = some a := by
  rw [atI_nn (by decide) (by rw [List.length_cons]; omega)]; rfl
@[simp] theorem at1 (a b : α) (l : List α) : atI (a :: b :: l) 1 = some b := by
  rw [atI_nn (by decide) (by simp only [List.length_cons]; omega)]; rfl
@[simp] theorem at2 (a b c : α) (l : List α) : atI (a :: b :: c :: l) 2 = some c := by
  rw [atI_nn (by decide) (by simp only [List.length_cons]; omega)]; rfl
@[simp] theorem set0 (a v : α) (l : List α) : setT (a :: l) 0 v = some (v :: l) := by
  rw [setT_nn (by decide) (by rw [List.length_cons]; omega)]; rfl
@[simp] theorem set1 (a b v : α) (l : List α) : setT (a :: b :: l) 1 v = some (a :: v :: l) := by
  rw [setT_nn (by decide) (by simp only [List.length_cons]; omega)]; rfl
@[simp] theorem set2 (a b c v : α) (l : List α) : setT (a :: b :: c :: l) 2 v = some (a :: b :: v :: l) := by
  rw [setT_nn (by decide) (by simp only [List.length_cons]; omega)]; rfl
theorem rngI_len (lo : Int) (n : Nat) : (rngI lo n).length = n := by unfold rngI; simp
theorem rngI_get {lo : Int} {n i : Nat} {y : Int} (h : (rngI lo n)[i]? = some y) : y = lo + i ∧ i < n := by
  unfold rngI at h
  rw [List.getElem?_map] at h
  obtain ⟨j, h1, h2⟩ := Option.map_eq_some_iff.mp h
  obtain ⟨h3, h4⟩ := List.getElem?_eq_some_iff.mp h1
  rw [List.getElem_range] at h4
  subst h4
  exact ⟨h2.symm, by simpa using h3⟩
theorem rngI_mem {lo : Int} {n : Nat} {y : Int} (h : y ∈ rngI lo n) : lo ≤ y ∧ y < lo + n := by
  unfold rngI at h
  obtain ⟨j, h1, h2⟩ := List.mem_map.mp h
  have := List.mem_range.mp h1
  omega
theorem rngI_snoc (lo : Int) (n : Nat) : rngI lo (n + 1) = rngI lo n ++ [lo + n] := by
  unfold rngI
  rw [List.range_succ, List.map_append]; rfl
end
end Sim
namespace Sim
open PySem PySem.Spec L2
section
variable {α β : Type}
/-- how a kind of values is sorted -/
structure Flt (e : α → D) (f : α → List Int) : Prop where
  fl : ∀ x, flat (e x) = f x
  al : ∀ x y, alike (e x) (e y) = true
  tp : ∀ x, (match e x with | .tuple (_ :: _) => true | _ => false) = true
  dp : ∀ x, deepD (e x) ≤ 8
theorem Flt.ok {e : α → D} {f : α → List Int} (h : Flt e f) : ∀ xs : List α, okN (xs.map e) = true
  | [] => rfl
  | x :: xs => by
    rw [List.map_cons]
    simp only [okN, Bool.and_eq_true, decide_eq_true_eq, List.all_eq_true]
    refine ⟨⟨h.tp x, h.dp x⟩, fun d hd => ?_⟩
    rw [← List.map_cons] at hd
    obtain ⟨y, _, rfl⟩ := List.mem_map.mp hd
    exact h.al x y
/-- a list or a tuple -/
inductive SqE (e : α → D) : (List α → D) → Prop
  | l : SqE e (eL e)
  | t : SqE e (eT e)
theorem SqE.seq {e : α → D} {g : List α → D} (h : SqE e g) (xs : List α) : seqLT (g xs) = some (xs.map e) := by cases h <;> rfl
end
end Sim
namespace Sim
open PySem PySem.Spec L2
theorem lim_inv {α : Type} {n : Nat} {m : Option α} {z : α} (h : lim n m = some z) : n ≤ 1000000 ∧ m = some z := by
  unfold lim at h
  split at h
  · rename_i c; exact ⟨c, h⟩
  · cases h
section
variable {α : Type}
end
end Sim
namespace Sim
open PySem PySem.Spec L2
section
variable {α β γ δ : Type}
end
end Sim
namespace Sim
open PySem PySem.Spec L2
def rI : D → Option Int
  | .int i => some i
  | _ => none
def rU : D → Option Unit
  | .none => some ()
  | _ => none
section
variable {α γ τ : Type}
end
section
variable {α γ : Type}
end
end Sim
namespace Sim
open PySem PySem.Spec L2
section
variable {β γ : Type}
end
end Sim
namespace Sim
open PySem PySem.Spec L2
section
variable {α β γ δ σ ρ : Type} {X : Cx} {p : Pt}
end
end Sim
namespace Sim
open PySem PySem.Spec L2
section
variable {α β γ δ σ ρ τ : Type} {p : Pt}
end
end Sim
namespace Sim
open PySem PySem.Spec L2
section
variable {α β γ : Type} {p : Pt}
end
end Sim
namespace Sim
open PySem PySem.Spec L2
section
variable {α β γ : Type}
section
variable [DecidableEq α]
variable {ek : α → D} {f : α → NestedKey} {e : β → D}
end
end
section
variable {α β γ δ ρ : Type} {p : Pt} {gs : AL} {q : α → Pt} {F : (α → Option γ) → Option γ} {ks : List AK} {vs : α → List D} {i : Nat}
end
section
variable {α γ κ τ : Type} {p : Pt} {e : O} {q : α → Pt} {F : (α → Option γ) → Option γ} {vl : Bool} {i : Nat} {rest : S} {Q : γ → Fl → Sg → Prop} [DecidableEq κ]
end
end Sim
namespace Sim
open PySem PySem.Spec L2
section
variable {α β γ : Type}
variable [DecidableEq α] {ek : α → D} {f : α → Key} {e : β → D}
end
section
variable {α β γ δ ρ : Type} {p : Pt} {gs : AL} {q : α → Pt} {F : (α → Option γ) → Option γ} {ks : List AK} {i : Nat}
end
section
variable {α γ κ τ : Type} {p : Pt} {e : O} {q : α → Pt} {F : (α → Option γ) → Option γ} {vl : Bool} {i : Nat} {rest : S} {Q : γ → Fl → Sg → Prop} [DecidableEq κ]
end
end Sim
namespace Sim
open PySem PySem.Spec L2
section
variable {α β γ : Type} {p : Pt} {g : O} {q : α → Pt} {F : (α → Option γ) → Option γ}
end
end Sim
namespace Sim
open PySem PySem.Spec L2
def eF {τ : Type} (e : τ → D) (xs : List τ) : D := .dict [(.none, .list (xs.map e))]
theorem puF {τ : Type} {e : τ → D} : Pu (eF e) := fun _ => pur_frz _
theorem it_F {τ : Type} {e : τ → D} (xs : List τ) : itP [eF e xs] = some (xs.map e) := rfl
section
variable {α β γ : Type} {p : Pt} {g : O} {ga : AL} {q : α → Pt} {F : (α → Option γ) → Option γ} {ks : List AK} {i : Nat}
theorem x_frzF {τ : Type} {e : τ → D} {v : α → List τ} (h : Pu e) (hx : X true p g (fun x => eL e (v x)) q F) : X true p (oFrz g) (fun x => eF e (v x)) q F := fun k z e0 => by
  obtain ⟨x, e1, hx⟩ := hx _ z e0
  refine ⟨x, e1, fun s mm => ?_⟩
  obtain ⟨r, s2, b1, b2, b3⟩ := hx s mm
  have : r = .val (eL e (v x)) := by
    rcases b3 with rfl | ⟨c, _⟩
    · rfl
    · cases c
  subst this
  refine ⟨.val (eF e (v x)), s2, ?_, b2, .inl rfl⟩
  unfold oFrz
  rw [b1, bind_ok]
  show (if purs ((v x).map e) = true then _ else _) = _
  rw [if_pos (purs_pu h _)]
  rfl
theorem x_lstF {τ : Type} {e : τ → D} {d0 : D} {w : α → List τ} {l : α → List (List τ)} (h : Pu e) (h0 : gtP p i = some d0) (hx : XA p ga ks (fun x => (l x).map (eF e)) q F) (h1 : ∀ x, gtP (q x) i = some (eL e (w x))) (hv : ks.all AK.isV = true) (hl : ∀ x, (l x).length < 1000000) :
    X true p (oLstF i ga) (fun x => eL (eF e) (w x :: l x)) (fun x => stP (q x) i (some (eF e (w x)))) F := fun k z e0 => by
  obtain ⟨x, e1, hx⟩ := hx _ z e0
  refine ⟨x, e1, fun s mm => ?_⟩
  obtain ⟨rs, s2, b1, b2, b3⟩ := hx s mm
  have b4 := b2.put i (eF e (w x))
  refine ⟨.val (eL (eF e) (w x :: l x)), _, ?_, b4, .inl rfl⟩
  have g0 : (s[i]?).join = some d0 := mm.get h0
  have g1 : (s2[i]?).join = some (eL e (w x)) := b2.get (h1 x)
  have o1 : owns rs s2 = some ((l x).map (eF e)) := b3.owns b2 (Sim.kv hv)
  have ea : aCons (oV i) ga s = .ok (.slot i :: rs) s2 := by
    unfold aCons oV
    simp only [g0, bind_ok, b1]
  unfold oLstF
  rw [ea, bind_ok]
  simp only [g1, o1]
  have hp2 : purs ((l x).map (eF e)) = true := purs_pu puF _
  have hp1 : purs ((w x).map e) = true := purs_pu h _
  show (if purs ((w x).map e) = true ∧ purs ((l x).map (eF e)) = true ∧ ((l x).map (eF e)).length < 1000000 then (Res.ok (Rf.val (.list (.dict [(.none, .list ((w x).map e))] :: (l x).map (eF e)))) (s2.set i (some (.dict [(.none, .list ((w x).map e))]))) : Res Rf) else .bad) = _
  rw [if_pos ⟨hp1, hp2, by rw [List.length_map]; exact hl x⟩]
  rfl
theorem x_lstF2 {τ : Type} {e : τ → D} {d0 : D} {w v1 v2 : α → List τ} (h : Pu e) (h0 : gtP p i = some d0) (hx : XA p ga ks (fun x => [eF e (v1 x), eF e (v2 x)]) q F) (h1 : ∀ x, gtP (q x) i = some (eL e (w x))) (hv : ks.all AK.isV = true) :
    X true p (oLstF i ga) (fun x => eL (eF e) [w x, v1 x, v2 x]) (fun x => stP (q x) i (some (eF e (w x)))) F :=
  x_lstF (l := fun x => [v1 x, v2 x]) h h0 hx h1 hv (fun _ => by simp)
end
end Sim
namespace Sim
open PySem PySem.Spec L2
def topS (i : Nat) : Stmt := PySem.Challenge.pw_stairlanes_k13_whole_orders_of_balls.main.body.getD i (.Pass ⟨0, 0, 0, 0⟩)
abbrev s_passed : Stmt := topS 1
theorem sc_passed : FnScope ["net", "turns", "lane", "lanes", "forks", "ends", "later", "number", "fork"] ["net", "turns", "lane"] (defScope s_passed) := ⟨rfl, rfl, rfl, by decide +kernel, rfl, by decide +kernel, by decide +kernel⟩
def b_passed : S :=
  (sSeq (sAsg (.tp [(.nm 3), (.nm 4), (.nm 5)]) (oV 0)) (sSeq (sSet 6 (oPrim pList (aCons (oV 1) aNil))) (sSeq (sFor (lkp [4] (lkM [0, 0, 1])) (mkI itE (aCons (oV 4) aNil)) (.tp [(.nm 7), (.nm 8)])
  (sIf (tst (o2 pIn (oV 2) (oV 8)))
  (sSeq (sSet 2 (o2 pIx (oV 8) (o2 pIx (oV 6) (oV 7)))) (sSetIx 6 (oV 7) (o2 pSub (oC (.int 1)) (o2 pIx (oV 6) (oV 7)))))
  sSkip)) (sRet (lkM [0, 0, 1]) (oTup (aCons (oPrim pTuple (aCons (oV 6) aNil)) (aCons (oIdxT (oV 5) (oV 2)) aNil)))))))
def f_passed : Fn := mkFn [0, 0, 1] 9 b_passed
abbrev s_passed_back : Stmt := topS 2
theorem sc_passed_back : FnScope ["net", "turns", "lane", "lanes", "forks", "ends", "later", "number", "fork"] ["net", "turns", "lane"] (defScope s_passed_back) := ⟨rfl, rfl, rfl, by decide +kernel, rfl, by decide +kernel, by decide +kernel⟩
def b_passed_back : S :=
  (sSeq (sAsg (.tp [(.nm 3), (.nm 4), (.nm 5)]) (oV 0)) (sSeq (sSet 6 (oPrim pList (aCons (oV 1) aNil))) (sSeq (sFor (lkp [4] (lkM [0, 0, 1])) (mkI itE (aCons (oV 4) aNil)) (.tp [(.nm 7), (.nm 8)])
  (sIf (tst (o2 pIn (oV 2) (oV 8)))
  (sSeq (sSetIx 6 (oV 7) (o2 pSub (oC (.int 1)) (o2 pIx (oV 6) (oV 7)))) (sSet 2 (o2 pIx (oV 8) (o2 pIx (oV 6) (oV 7)))))
  sSkip)) (sRet (lkM [0, 0, 1]) (oTup (aCons (oPrim pTuple (aCons (oV 6) aNil)) (aCons (oIdxT (oV 5) (oV 2)) aNil)))))))
def f_passed_back : Fn := mkFn [0, 0, 1] 9 b_passed_back
abbrev s_fork_totals : Stmt := topS 4
theorem sc_fork_totals : FnScope ["net", "counts", "lanes", "totals", "one", "other", "many"] ["net", "counts"] (defScope s_fork_totals) := ⟨rfl, rfl, rfl, by decide +kernel, rfl, by decide +kernel, by decide +kernel⟩
def b_fork_totals : S :=
  (sSeq (sSet 2 (oPrim pList (aCons (oV 1) aNil))) (sSeq (sSet 3 (oLst aNil)) (sSeq (sFor (lkM [0, 0]) (mkI itP (aCons (o2 pIx (oV 0) (oC (.int 1))) aNil)) (.tp [(.nm 4), (.nm 5)])
  (sSeq (sSet 6 (o2 pAdd (o2 pIx (oV 2) (oV 4)) (o2 pIx (oV 2) (oV 5)))) (sSeq (sExpr (oMt mApp 3 (aCons (oV 6) aNil))) (sSeq (sSetIx 2 (oV 4) (o2 pDiv (o2 pAdd (oV 6) (oC (.int 1))) (oC (.int 2)))) (sSetIx 2 (oV 5) (o2 pDiv (oV 6) (oC (.int 2)))))))) (sRetT (lkM [0, 0]) (aCons (oV 3) (aCons (oV 2) aNil))))))
def f_fork_totals : Fn := mkFn [0, 0] 7 b_fork_totals
abbrev s_ends_of : Stmt := topS 5
theorem sc_ends_of : FnScope ["net", "counts", "totals", "lanes", "lane"] ["net", "counts"] (defScope s_ends_of) := ⟨rfl, rfl, rfl, by decide +kernel, rfl, by decide +kernel, by decide +kernel⟩
def b_ends_of : S :=
  (sSeq (sAsg (.tp [(.nm 2), (.nm 3)]) (oCall f_fork_totals (aCons (oV 0) (aCons (oV 1) aNil)))) (sRet (lkM [0, 0]) (oPrim pTuple (aCons (oComp (mkI itP (aCons (o2 pIx (oV 0) (oC (.int 2))) aNil)) (.nm 4) tYesT (o2 pIx (oV 3) (oV 4)) [4]) aNil))))
def f_ends_of : Fn := mkFn [0, 0] 5 b_ends_of
abbrev s_turns_of : Stmt := topS 6
theorem sc_turns_of : FnScope ["net", "counts", "totals", "lanes", "many"] ["net", "counts"] (defScope s_turns_of) := ⟨rfl, rfl, rfl, by decide +kernel, rfl, by decide +kernel, by decide +kernel⟩
def b_turns_of : S :=
  (sSeq (sAsg (.tp [(.nm 2), (.nm 3)]) (oCall f_fork_totals (aCons (oV 0) (aCons (oV 1) aNil)))) (sRet (lkM [0, 0]) (oPrim pTuple (aCons (oComp (mkI itP (aCons (oV 2) aNil)) (.nm 4) tYesT (o2 pMod (oV 4) (oC (.int 2))) [4]) aNil))))
def f_turns_of : Fn := mkFn [0, 0] 5 b_turns_of
abbrev s__law_cell_at : Stmt := topS 8
theorem sc__law_cell_at : FnScope ["_law_script", "_law_k"] ["_law_script", "_law_k"] (defScope s__law_cell_at) := ⟨rfl, rfl, rfl, by decide +kernel, rfl, by decide +kernel, by decide +kernel⟩
def b__law_cell_at : S :=
  (sSeq (sIf (tst (o2 pLt (oV 1) (oPrim pLen (aCons (oV 0) aNil))))
  (sRet (lkM [0, 0]) (o2 pIx (oV 0) (oV 1)))
  sSkip) (sRet (lkM [0, 0]) (oC (.int 0))))
def f__law_cell_at : Fn := mkFn [0, 0] 2 b__law_cell_at
abbrev s__law_left : Stmt := topS 9
theorem sc__law_left : FnScope ["_law_script", "_law_k", "_law_cell", "_law_seed"] ["_law_script", "_law_k"] (defScope s__law_left) := ⟨rfl, rfl, rfl, by decide +kernel, rfl, by decide +kernel, by decide +kernel⟩
def b__law_left : S :=
  (sSeq (sSet 2 (oCall f__law_cell_at (aCons (oV 0) (aCons (o2 pMod (oV 1) (oPrim pMax2 (aCons (oC (.int 1)) (aCons (oPrim pLen (aCons (oV 0) aNil)) aNil)))) aNil)))) (sSeq (sSet 3 (o2 pMod (o2 pMul (o2 pAdd (o2 pAdd (o2 pMod (oV 2) (oC (.int 2147483629))) (o2 pMul (o2 pMul (oC (.int 7919)) (oV 1)) (oV 1))) (oC (.int 11))) (oC (.int 48271))) (oC (.int 2147483647)))) (sRet (lkM [0, 0]) (oLst (aCons (o2 pMod (o2 pMul (oV 2) (oPrim pInt (aCons (o2 pGe (oV 2) (o2 pPow (oC (.int 10)) (oC (.int 18)))) aNil))) (oTen 4000)) (aCons (oV 3) aNil))))))
def f__law_left : Fn := mkFn [0, 0] 4 b__law_left
abbrev s__law_pick : Stmt := topS 10
theorem sc__law_pick : FnScope ["_law_left_here", "_law_many", "_law_digit"] ["_law_left_here", "_law_many"] (defScope s__law_pick) := ⟨rfl, rfl, rfl, by decide +kernel, rfl, by decide +kernel, by decide +kernel⟩
def b__law_pick : S :=
  (sSeq (sIf (tst (o2 pGt (o2 pIx (oV 0) (oC (.int 0))) (oC (.int 0))))
  (sSeq (sSet 2 (o2 pMod (o2 pIx (oV 0) (oC (.int 0))) (oV 1))) (sSeq (sSetIx 0 (oC (.int 0)) (o2 pDiv (o2 pIx (oV 0) (oC (.int 0))) (oV 1))) (sRet (lkM [0, 0]) (oV 2))))
  sSkip) (sSeq (sSetIx 0 (oC (.int 1)) (o2 pMod (o2 pAdd (o2 pMul (o2 pIx (oV 0) (oC (.int 1))) (oC (.int 48271))) (oC (.int 12345))) (oC (.int 2147483647)))) (sRet (lkM [0, 0]) (o2 pMod (o2 pMod (o2 pMul (o2 pIx (oV 0) (oC (.int 1))) (o2 pIx (oV 0) (oC (.int 1)))) (oC (.int 1999999973))) (oV 1)))))
def f__law_pick : Fn := mkFn [0, 0] 3 b__law_pick
abbrev s__law_net : Stmt := topS 11
theorem sc__law_net : FnScope ["_law_left_here", "_law_most", "_law_lanes", "_law_forks", "_law_k", "_law_one", "_law_fork", "_law_way", "_law_ends", "_law_lane"] ["_law_left_here", "_law_most"] (defScope s__law_net) := ⟨rfl, rfl, rfl, by decide +kernel, rfl, by decide +kernel, by decide +kernel⟩
def b__law_net : S :=
  (sSeq (sSet 2 (o2 pIx (oLst (aCons (oC (.int 2)) (aCons (oC (.int 3)) (aCons (oC (.int 4)) (aCons (oC (.int 2)) (aCons (oC (.int 4)) (aCons (oC (.int 5)) (aCons (oC (.int 8)) (aCons (oC (.int 6)) (aCons (oC (.int 1)) (aCons (oC (.int 16)) aNil))))))))))) (oCall f__law_pick (aCons (oV 0) (aCons (oC (.int 10)) aNil))))) (sSeq (sSet 3 (oLst aNil)) (sSeq (sFor (lkM [0, 0]) (mkI itR1 (aCons (o2 pMul (o2 pIx (oLst (aCons (oC (.int 0)) (aCons (oC (.int 1)) (aCons (oC (.int 2)) (aCons (oC (.int 3)) (aCons (oC (.int 5)) (aCons (oC (.int 8)) (aCons (oC (.int 12)) (aCons (oV 1) aNil))))))))) (oCall f__law_pick (aCons (oV 0) (aCons (oC (.int 8)) aNil)))) (oPrim pInt (aCons (o2 pGt (oV 2) (oC (.int 1))) aNil))) aNil)) (.nm 4)
  (sSeq (sSet 5 (oCall f__law_pick (aCons (oV 0) (aCons (oV 2) aNil)))) (sSeq (sSet 6 (oTup (aCons (oV 5) (aCons (o2 pMod (o2 pAdd (o2 pAdd (oV 5) (oC (.int 1))) (oCall f__law_pick (aCons (oV 0) (aCons (oPrim pMax2 (aCons (oC (.int 1)) (aCons (o2 pSub (oV 2) (oC (.int 1))) aNil))) aNil)))) (oV 2)) aNil)))) (sSeq (sSet 7 (oCall f__law_pick (aCons (oV 0) (aCons (oC (.int 6)) aNil)))) (sSeq (sIf (tAnd (tst (o2 pNe (oV 3) (oLst aNil))) (tst (o2 pLt (oV 7) (oC (.int 2)))))
  (sSet 6 (o2 pIx (oLst (aCons (o2 pIx (oV 3) (o1 pNeg (oC (.int 1)))) (aCons (oSt (o2 pIx (oV 3) (o1 pNeg (oC (.int 1)))) none none (some (o1 pNeg (oC (.int 1))))) aNil))) (oV 7)))
  sSkip) (sExpr (oMt mApp 3 (aCons (oV 6) aNil)))))))) (sSeq (sSet 8 (oLst aNil)) (sSeq (sFor (lkM [0, 0]) (mkI itR1 (aCons (oV 2) aNil)) (.nm 9)
  (sExpr (oMt mIns 8 (aCons (oCall f__law_pick (aCons (oV 0) (aCons (o2 pAdd (oPrim pLen (aCons (oV 8) aNil)) (oC (.int 1))) aNil))) (aCons (oV 9) aNil))))) (sRet (lkM [0, 0]) (oTup (aCons (oV 2) (aCons (oPrim pTuple (aCons (oV 3) aNil)) (aCons (o2 pIx (oLst (aCons (oPrim pTuple (aCons (oV 8) aNil)) (aCons (oPrim (pTupleRg) (aCons (oV 2) aNil)) aNil))) (oCall f__law_pick (aCons (oV 0) (aCons (oC (.int 2)) aNil)))) aNil))))))))))
def f__law_net : Fn := mkFn [0, 0] 10 b__law_net
abbrev s__law_come : Stmt := topS 12
theorem sc__law_come : FnScope ["_law_net_here", "_law_balls", "_law_turns", "_law_ends", "_law_lane", "_law_sign", "_law_end"] ["_law_net_here", "_law_balls"] (defScope s__law_come) := ⟨rfl, rfl, rfl, by decide +kernel, rfl, by decide +kernel, by decide +kernel⟩
def b__law_come : S :=
  (sSeq (sPar [2, 3] (aCons (o2 pMul (oTup (aCons (oC (.int 0)) aNil)) (oPrim pLen (aCons (o2 pIx (oV 0) (oC (.int 1))) aNil))) (aCons (o2 pMul (oLst (aCons (oC (.int 0)) aNil)) (o2 pIx (oV 0) (oC (.int 0)))) aNil))) (sSeq (sFor (lkp [1] (lkM [0, 0])) (mkI itP (aCons (oV 1) aNil)) (.tp [(.nm 4), (.nm 5)])
  (sSeq (sIf (tst (o2 pEq (oV 5) (oC (.int 1))))
  (sAsg (.tp [(.nm 2), (.nm 6)]) (oCall f_passed (aCons (oV 0) (aCons (oV 2) (aCons (oV 4) aNil)))))
  (sAsg (.tp [(.nm 2), (.nm 6)]) (oCall f_passed_back (aCons (oV 0) (aCons (oV 2) (aCons (oV 4) aNil)))))) (sSetIx 3 (oV 6) (o2 pAdd (o2 pIx (oV 3) (oV 6)) (oV 5))))) (sRet (lkM [0, 0]) (oTup (aCons (oPrim pTuple (aCons (oV 3) aNil)) (aCons (oV 2) aNil))))))
def f__law_come : Fn := mkFn [0, 0] 7 b__law_come
abbrev s__law_shuffled : Stmt := topS 13
theorem sc__law_shuffled : FnScope ["_law_left_here", "_law_some", "_law_found", "_law_one"] ["_law_left_here", "_law_some"] (defScope s__law_shuffled) := ⟨rfl, rfl, rfl, by decide +kernel, rfl, by decide +kernel, by decide +kernel⟩
def b__law_shuffled : S :=
  (sSeq (sSet 2 (oLst aNil)) (sSeq (sFor (lkp [1] (lkM [0, 0])) (mkI itP (aCons (oV 1) aNil)) (.nm 3)
  (sExpr (oMt mIns 2 (aCons (oCall f__law_pick (aCons (oV 0) (aCons (o2 pAdd (oPrim pLen (aCons (oV 2) aNil)) (oC (.int 1))) aNil))) (aCons (oV 3) aNil))))) (sRet (lkM [0, 0]) (oV 2))))
def f__law_shuffled : Fn := mkFn [0, 0] 4 b__law_shuffled
abbrev s_law : Stmt := topS 14
theorem sc_law : FnScope ["_law_script", "_law_k", "_law_left_here", "_law_net_here", "_law_balls", "_law_ball", "_law_more", "_law_lane", "_law_counts", "_law_sign", "_law_due", "_law_some"] ["_law_script"] (defScope s_law) := ⟨rfl, rfl, rfl, by decide +kernel, rfl, by decide +kernel, by decide +kernel⟩
def b_law : S :=
  (sSeq (sFor (lkM [0]) (mkI itR1 (aCons (oPrim pMax2 (aCons (oC (.int 6)) (aCons (oPrim pMin2 (aCons (oC (.int 20)) (aCons (oPrim pLen (aCons (oV 0) aNil)) aNil))) aNil))) aNil)) (.nm 1)
  (sSeq (sSet 2 (oCall f__law_left (aCons (oV 0) (aCons (oV 1) aNil)))) (sSeq (sSet 3 (oCall f__law_net (aCons (oV 2) (aCons (oC (.int 40)) aNil)))) (sSeq (sSet 4 (oLst aNil)) (sSeq (sFor (lkM [0]) (mkI itR1 (aCons (o2 pIx (oLst (aCons (oC (.int 0)) (aCons (oC (.int 2)) (aCons (oC (.int 9)) (aCons (oC (.int 30)) aNil))))) (oCall f__law_pick (aCons (oV 2) (aCons (oC (.int 4)) aNil)))) aNil)) (.nm 5)
  (sExpr (oMt mApp 4 (aCons (oTup (aCons (oCall f__law_pick (aCons (oV 2) (aCons (o2 pIx (oV 3) (oC (.int 0))) aNil))) (aCons (o2 pIx (oLst (aCons (oC (.int 1)) (aCons (oC (.int 1)) (aCons (o1 pNeg (oC (.int 1))) aNil)))) (oCall f__law_pick (aCons (oV 2) (aCons (oC (.int 3)) aNil)))) aNil))) aNil)))) (sSeq (sSet 6 (oLst aNil)) (sSeq (sFor (lkM [0]) (mkI itR1 (aCons (oCall f__law_pick (aCons (oV 2) (aCons (oC (.int 5)) aNil))) aNil)) (.nm 5)
  (sSeq (sSet 7 (oCall f__law_pick (aCons (oV 2) (aCons (o2 pIx (oV 3) (oC (.int 0))) aNil)))) (sExpr (oMt mExt 6 (aCons (oLst (aCons (oTup (aCons (oV 7) (aCons (oC (.int 1)) aNil))) (aCons (oTup (aCons (oV 7) (aCons (o1 pNeg (oC (.int 1))) aNil))) aNil))) aNil))))) (sSeq (sSet 8 (o2 pMul (oLst (aCons (oC (.int 0)) aNil)) (o2 pIx (oV 3) (oC (.int 0))))) (sSeq (sFor (lkp [4] (lkM [0])) (mkI itP (aCons (oV 4) aNil)) (.tp [(.nm 7), (.nm 9)])
  (sSetIx 8 (oV 7) (o2 pAdd (o2 pIx (oV 8) (oV 7)) (oV 9)))) (sSeq (sSet 10 (oTup (aCons (oCall f_ends_of (aCons (oV 3) (aCons (oPrim pTuple (aCons (oV 8) aNil)) aNil))) (aCons (oCall f_turns_of (aCons (oV 3) (aCons (oPrim pTuple (aCons (oV 8) aNil)) aNil))) aNil)))) (sFor (lkM [0]) (mkI itP (aCons (oLstF 4 (aCons (oFrz (oCall f__law_shuffled (aCons (oV 2) (aCons (oV 4) aNil)))) (aCons (oFrz (oCall f__law_shuffled (aCons (oV 2) (aCons (o2 pAdd (oV 4) (oV 6)) aNil)))) aNil))) aNil)) (.nm 11)
  (sIf (tst (o2 pNe (oCall f__law_come (aCons (oV 3) (aCons (oV 11) aNil))) (oV 10)))
  (sRet (lkM [0]) (oC (.bool false)))
  sSkip)))))))))))) (sRet (lkM [0]) (oC (.bool true))))
def f_law : Fn := mkFn [0] 12 b_law
def p_passed (net : (Int × (List (Int × Int)) × (List Int))) (turns : (List Int)) (lane : Int) : Option ((List Int) × Int) :=
  ((lpN (fun (s9 : (Int × (List Int))) (y10 : (Int × (Int × Int))) => if ((decide (y10.2.1 = s9.1) || decide (y10.2.2 = s9.1))) = true then ((atI s9.2 y10.1)).bind fun t18 => ((atP y10.2 t18)).bind fun lane => ((atI s9.2 y10.1)).bind fun t24 => ((setT s9.2 y10.1 ((1 : Int) - t24))).bind fun later => some (lane, later) else some (s9.1, s9.2)) (enumT 0 net.2.1) (lane, turns))).bind fun s9 => ((idxT net.2.2 s9.1)).bind fun t32 => some (s9.2, t32)
def p_passed_back (net : (Int × (List (Int × Int)) × (List Int))) (turns : (List Int)) (lane : Int) : Option ((List Int) × Int) :=
  ((lpN (fun (s9 : (Int × (List Int))) (y10 : (Int × (Int × Int))) => if ((decide (y10.2.1 = s9.1) || decide (y10.2.2 = s9.1))) = true then ((atI s9.2 y10.1)).bind fun t18 => ((setT s9.2 y10.1 ((1 : Int) - t18))).bind fun later => ((atI later y10.1)).bind fun t26 => ((atP y10.2 t26)).bind fun lane => some (lane, later) else some (s9.1, s9.2)) (enumT 0 net.2.1) (lane, turns))).bind fun s9 => ((idxT net.2.2 s9.1)).bind fun t32 => some (s9.2, t32)
def p_fork_totals (net : (Int × (List (Int × Int)) × (List Int))) (counts : (List Int)) : Option ((List Int) × (List Int)) :=
  (some ([] : (List Int))).bind fun totals => ((lpN (fun (s13 : ((List Int) × (List Int))) (y14 : (Int × Int)) => ((atI s13.1 y14.1)).bind fun t18 => ((atI s13.1 y14.2)).bind fun t21 => (some (t18 + t21)).bind fun many => ((appT s13.2 many)).bind fun totals => ((setT s13.1 y14.1 ((many + (1 : Int)) / (2 : Int)))).bind fun lanes => ((setT lanes y14.2 (many / (2 : Int)))).bind fun lanes => some (lanes, totals)) net.2.1 (counts, totals))).bind fun s13 => some (s13.2, s13.1)
def p_ends_of (net : (Int × (List (Int × Int)) × (List Int))) (counts : (List Int)) : Option (List Int) :=
  ((p_fork_totals  net counts)).bind fun t5 => lim (net.2.2.length) (((mapO (fun lane => ((atI t5.2 lane)).bind fun t15 => some t15) net.2.2)).bind fun t17 => some t17)
def p_turns_of (net : (Int × (List (Int × Int)) × (List Int))) (counts : (List Int)) : Option (List Int) :=
  ((p_fork_totals  net counts)).bind fun t5 => lim (t5.1.length) (some (List.map (fun many => (many % (2 : Int))) t5.1))
def p__law_cell_at (script : (List Int)) (k : Int) : Option Int :=
  if (decide (k < (script.length : Int))) = true then ((atI script k)).bind fun t9 => some t9 else some (0 : Int)
def p__law_left (script : (List Int)) (k : Int) : Option (List Int) :=
  ((modT k (max (1 : Int) (script.length : Int)))).bind fun t9 => ((p__law_cell_at  script t9)).bind fun cell => ((mulT ((7919 : Int) * k) k)).bind fun t20 => (some (((((cell % (2147483629 : Int)) + t20) + (11 : Int)) * (48271 : Int)) % (2147483647 : Int))).bind fun seed => ((modT (cell * (if (decide ((1000000000000000000 : Int) ≤ cell)) = true then 1 else 0)) (tenN 4000))).bind fun t40 => some [t40, seed]
def p__law_pick (left_here : (List Int)) (many : Int) : Option (Int × (List Int)) :=
  ((atI left_here (0 : Int))).bind fun t4 => if (decide ((0 : Int) < t4)) = true then ((atI left_here (0 : Int))).bind fun t9 => ((modT t9 many)).bind fun digit => ((atI left_here (0 : Int))).bind fun t15 => ((divT t15 many)).bind fun t18 => ((setT left_here (0 : Int) t18)).bind fun left_here => some (digit, left_here) else ((atI left_here (1 : Int))).bind fun t25 => ((setT left_here (1 : Int) (((t25 * (48271 : Int)) + (12345 : Int)) % (2147483647 : Int)))).bind fun left_here => ((atI left_here (1 : Int))).bind fun t37 => ((atI left_here (1 : Int))).bind fun t40 => ((mulT t37 t40)).bind fun t42 => ((modT (t42 % (1999999973 : Int)) many)).bind fun t47 => some (t47, left_here)
def p__law_net (left_here : (List Int)) (most : Int) : Option ((Int × (List (Int × Int)) × (List Int)) × (List Int)) :=
  ((p__law_pick  left_here (10 : Int))).bind fun t16 => ((atI [(2 : Int), (3 : Int), (4 : Int), (2 : Int), (4 : Int), (5 : Int), (8 : Int), (6 : Int), (1 : Int), (16 : Int)] t16.1)).bind fun lanes => (some ([] : (List (Int × Int)))).bind fun forks => ((p__law_pick  t16.2 (8 : Int))).bind fun t35 => ((atI [(0 : Int), (1 : Int), (2 : Int), (3 : Int), (5 : Int), (8 : Int), (12 : Int), most] t35.1)).bind fun t37 => ((rngO (t37 * (if (decide ((1 : Int) < lanes)) = true then 1 else 0)))).bind fun t44 => ((lpN (fun (s46 : ((List Int) × (List (Int × Int)))) (k : Int) => ((p__law_pick  s46.1 lanes)).bind fun t51 => ((p__law_pick  t51.2 (max (1 : Int) (lanes - (1 : Int))))).bind fun t62 => ((modT ((t51.1 + (1 : Int)) + t62.1) lanes)).bind fun t66 => (some (t51.1, t66)).bind fun fork => ((p__law_pick  t62.2 (6 : Int))).bind fun t73 => ((if ((!decide (s46.2 = ([] : (List (Int × Int))))) && (decide (t73.1 < (2 : Int)))) = true then ((atI s46.2 (-(1 : Int)))).bind fun t83 => ((atI s46.2 (-(1 : Int)))).bind fun t87 => ((atI [t83, (t87.2, t87.1)] t73.1)).bind fun fork => some fork else some fork)).bind fun fork => ((appT s46.2 fork)).bind fun forks => some (t73.2, forks)) t44 (t35.2, forks))).bind fun s46 => (some ([] : (List Int))).bind fun ends => ((rngO lanes)).bind fun t108 => ((lpN (fun (s110 : ((List Int) × (List Int))) (lane : Int) => ((p__law_pick  s110.1 ((s110.2.length : Int) + (1 : Int)))).bind fun t117 => ((insT s110.2 t117.1 lane)).bind fun ends => some (t117.2, ends)) t108 (s46.1, ends))).bind fun s110 => ((rngO lanes)).bind fun t126 => ((p__law_pick  s110.1 (2 : Int))).bind fun t131 => ((atI [s110.2, t126] t131.1)).bind fun t133 => some ((lanes, s46.2, t133), t131.2)
def p__law_come (net_here : (Int × (List (Int × Int)) × (List Int))) (balls : (List (Int × Int))) : Option ((List Int) × (List Int)) :=
  ((repT [(0 : Int)] (net_here.2.1.length : Int))).bind fun t10 => ((repT [(0 : Int)] net_here.1)).bind fun t18 => ((lpN (fun (s23 : ((List Int) × (List Int))) (y24 : (Int × Int)) => ((if (decide (y24.2 = (1 : Int))) = true then ((p_passed  net_here s23.1 y24.1)).bind fun t33 => some (t33.1, t33.2) else ((p_passed_back  net_here s23.1 y24.1)).bind fun t38 => some (t38.1, t38.2))).bind fun t41 => ((atI s23.2 t41.2)).bind fun t43 => ((setT s23.2 t41.2 (t43 + y24.2))).bind fun ends => some (t41.1, ends)) balls (t10, t18))).bind fun s23 => some (s23.2, s23.1)
def p__law_shuffled (left_here : (List Int)) (some_ : (List (Int × Int))) : Option ((List (Int × Int)) × (List Int)) :=
  (some ([] : (List (Int × Int)))).bind fun found => ((lpN (fun (s8 : ((List Int) × (List (Int × Int)))) (one : (Int × Int)) => ((p__law_pick  s8.1 ((s8.2.length : Int) + (1 : Int)))).bind fun t15 => ((insT s8.2 t15.1 one)).bind fun found => some (t15.2, found)) some_ (left_here, found))).bind fun s8 => some (s8.2, s8.1)
def p_law (script : (List Int)) : Option Bool :=
  ((rngO (max (6 : Int) (min (20 : Int) (script.length : Int))))).bind fun t8 => (((lpR (fun (s10 : Unit) (k : Int) => ((p__law_left  script k)).bind fun left_here => ((p__law_net  left_here (40 : Int))).bind fun t19 => (some ([] : (List (Int × Int)))).bind fun balls => ((p__law_pick  t19.2 (4 : Int))).bind fun t32 => ((atI [(0 : Int), (2 : Int), (9 : Int), (30 : Int)] t32.1)).bind fun t34 => ((rngO t34)).bind fun t36 => ((lpN (fun (s38 : ((List Int) × (List (Int × Int)))) (ball : Int) => ((p__law_pick  s38.1 t19.1.1)).bind fun t45 => ((p__law_pick  t45.2 (3 : Int))).bind fun t54 => ((atI [(1 : Int), (1 : Int), (-(1 : Int))] t54.1)).bind fun t56 => ((appT s38.2 (t45.1, t56))).bind fun balls => some (t54.2, balls)) t36 (t32.2, balls))).bind fun s38 => (some ([] : (List (Int × Int)))).bind fun more => ((p__law_pick  s38.1 (5 : Int))).bind fun t67 => ((rngO t67.1)).bind fun t69 => ((lpN (fun (s71 : ((List Int) × (List (Int × Int)))) (ball : Int) => ((p__law_pick  s71.1 t19.1.1)).bind fun t78 => ((catT s71.2 [(t78.1, (1 : Int)), (t78.1, (-(1 : Int)))])).bind fun more => some (t78.2, more)) t69 (t67.2, more))).bind fun s71 => ((repT [(0 : Int)] t19.1.1)).bind fun counts => ((lpN (fun (counts : ((List Int))) (y103 : (Int × Int)) => ((atI counts y103.1)).bind fun t107 => ((setT counts y103.1 (t107 + y103.2))).bind fun counts => some counts) s38.2 counts)).bind fun counts => ((p_ends_of  t19.1 counts)).bind fun t116 => ((p_turns_of  t19.1 counts)).bind fun t120 => (some (t116, t120)).bind fun due => ((p__law_shuffled  s71.1 s38.2)).bind fun t126 => ((catT s38.2 s71.2)).bind fun t129 => ((p__law_shuffled  t126.2 t129)).bind fun t131 => (((lpR (fun (s136 : Unit) (some_ : (List (Int × Int))) => ((p__law_come  t19.1 some_)).bind fun t142 => if (!decide (t142 = due)) = true then some (Lf.ret false) else some (.go ())) [s38.2, t126.1, t131.1] ()).bind fun w => w.on (fun s136 => some (.go ())) (fun z => some (Lf.ret z))))) t8 ()).bind fun w => w.on (fun s10 => some true) (fun z => some (z))))
theorem tok_passed (a0 : (Int × (List (Int × Int)) × (List Int))) (a1 : (List Int)) (a2 : Int) : ∀ z, p_passed a0 a1 a2 = some z → f_passed [(eQ eI (eT (eP eI eI)) (eT eI)) a0, (eT eI) a1, eI a2] = .ok ((eP (eT eI) eI) z) [(eQ eI (eT (eP eI eI)) (eT eI)) a0, (eT eI) a1, eI a2] :=
  fn_t (p0 := [some ((eQ eI (eT (eP eI eI)) (eT eI)) a0), some ((eT eI) a1), some (eI a2), none, none, none, none, none, none]) (m := p_passed a0 a1 a2) (rv := fun (z : ((List Int) × Int)) => (eP (eT eI) eI) z) (q := fun (z : ((List Int) × Int)) => [some ((eQ eI (eT (eP eI eI)) (eT eI)) a0), some ((eT eI) a1), none, none, none, none, none, none, none]) (outs := fun z => [(eQ eI (eT (eP eI eI)) (eT eI)) a0, (eT eI) a1, eI a2]) (B.cv (b_asg (x_var (d := (eQ eI (eT (eP eI eI)) (eT eI)) a0) 0 rfl) (.inr (fun _ => (puQ puI (puT (puP puI puI)) (puT puI)) _)) (fun _ => (as_tp (ass_cons as_nm (ass_cons as_nm (ass_cons as_nm ass_nil))))) (fun x4 => (b_set (x_primT (xa_p (x_var (d := (eT eI) a1) 1 rfl) (fun _ => (puT puI) _) (fun x5 => xa_nil)) (fun _ => op_lstT puI _)) (.inl rfl) (fun x6 => (b_for (xi_mk (xa_p (x_var (d := (eT (eP eI eI)) a0.2.1) 4 rfl) (fun _ => (puT (puP puI puI)) _) (fun x7 => xa_nil)) rfl (puP puI (puP puI puI)) (fun _ => it_eT _)) (fun x8 (x9 : (Int × (List Int))) => [some ((eQ eI (eT (eP eI eI)) (eT eI)) a0), some ((eT eI) a1), some (eI x9.1), some (eI a0.1), some ((eT (eP eI eI)) a0.2.1), some ((eT eI) a0.2.2), some ((eL eI) x9.2), none, none]) (fun x8 => (a2, a1)) (fun _ => rfl) (fun x8 => by repeat (first | exact wk_nil | apply wk_a | apply wk_s)) (fun x8 x9 x10 => (as_tp (ass_cons as_nm (ass_cons as_nm ass_nil)))) (fun x8 x9 x10 => (b_last (b_if (xt_tst (x_primT (xa_p (x_var (d := eI x9.1) 2 rfl) (fun _ => puI _) (fun x13 => (xa_p (x_var (d := (eP eI eI) x10.2) 8 rfl) (fun _ => (puP puI puI) _) (fun x14 => xa_nil)))) (fun _ => op_inP _ _))) (fun x15 => (b_asc (b_set (x_prim (xa_p (x_var (d := (eP eI eI) x10.2) 8 rfl) (fun _ => (puP puI puI) _) (fun x16 => (xa_v (x_prim (xa_s 6 rfl (xa_p (x_var (d := eI x10.1) 7 rfl) (fun _ => puI _) (fun x17 => xa_nil)) (fun _ => rfl) (fun _ => puL)) (fun _ _ h => op_ixL puI h)) (fun x19 => xa_nil)))) (fun _ _ h => op_ixPd puI h)) (.inl rfl) (fun x21 => (b_setIx (e1 := eI) (x_primT (xa_v (x_c (eI 1)) (fun x22 => (xa_v (x_prim (xa_s 6 rfl (xa_p (x_var (d := eI x10.1) 7 rfl) (fun _ => puI _) (fun x23 => xa_nil)) (fun _ => rfl) (fun _ => puL)) (fun _ _ h => op_ixL puI h)) (fun x25 => xa_nil)))) (fun _ => op_sub' _ _)) puI (fun _ => ⟨_, rfl⟩) (fun x26 => (x_var (d := eI x10.1) 7 rfl)) (fun _ _ => .inl rfl) (fun _ _ => rfl) (fun x26 x27 x28 => (b_endC (z := (x21.2, x28)) (by repeat (first | exact wk_nil | apply wk_a | apply wk_s))))))))) (fun x15 => (b_skip (b_endC (z := (x9.1, x9.2)) (by repeat (first | exact wk_nil | apply wk_a | apply wk_s)))))))) (fun x8 x9 => (b_last (b_ret (X.as (x_tup (xa_v (x_primT (xa_s 6 rfl xa_nil (fun _ => rfl) (fun _ => puL)) (fun _ => op_tupL puI _)) (fun x30 => (xa_v (x_idx (x_var (d := (eT eI) a0.2.2) 5 rfl) (fun _ => rfl) (fun x31 => (x_var (d := eI x9.1) 2 rfl)) (fun _ _ _ h => op_idx h)) (fun x33 => xa_nil)))) rfl (by decide)) (fun x34 => (eP (eT eI) eI) (x9.2, x34.2.1.2.2)) rfl) (fun x35 => (x9.2, x35.2.1.2.2)) (.inl rfl) (fun x35 => qf_ret rfl (by repeat (first | exact wk_nil | apply wk_a | apply wk_s))))))))))) (by dsimp only [p_passed])) rfl (by simp [okM, (puI _)]) (fun z => (coll_0P rfl (coll_0P rfl (coll_1P coll_nilP))))
theorem tok_passed_back (a0 : (Int × (List (Int × Int)) × (List Int))) (a1 : (List Int)) (a2 : Int) : ∀ z, p_passed_back a0 a1 a2 = some z → f_passed_back [(eQ eI (eT (eP eI eI)) (eT eI)) a0, (eT eI) a1, eI a2] = .ok ((eP (eT eI) eI) z) [(eQ eI (eT (eP eI eI)) (eT eI)) a0, (eT eI) a1, eI a2] :=
  fn_t (p0 := [some ((eQ eI (eT (eP eI eI)) (eT eI)) a0), some ((eT eI) a1), some (eI a2), none, none, none, none, none, none]) (m := p_passed_back a0 a1 a2) (rv := fun (z : ((List Int) × Int)) => (eP (eT eI) eI) z) (q := fun (z : ((List Int) × Int)) => [some ((eQ eI (eT (eP eI eI)) (eT eI)) a0), some ((eT eI) a1), none, none, none, none, none, none, none]) (outs := fun z => [(eQ eI (eT (eP eI eI)) (eT eI)) a0, (eT eI) a1, eI a2]) (B.cv (b_asg (x_var (d := (eQ eI (eT (eP eI eI)) (eT eI)) a0) 0 rfl) (.inr (fun _ => (puQ puI (puT (puP puI puI)) (puT puI)) _)) (fun _ => (as_tp (ass_cons as_nm (ass_cons as_nm (ass_cons as_nm ass_nil))))) (fun x4 => (b_set (x_primT (xa_p (x_var (d := (eT eI) a1) 1 rfl) (fun _ => (puT puI) _) (fun x5 => xa_nil)) (fun _ => op_lstT puI _)) (.inl rfl) (fun x6 => (b_for (xi_mk (xa_p (x_var (d := (eT (eP eI eI)) a0.2.1) 4 rfl) (fun _ => (puT (puP puI puI)) _) (fun x7 => xa_nil)) rfl (puP puI (puP puI puI)) (fun _ => it_eT _)) (fun x8 (x9 : (Int × (List Int))) => [some ((eQ eI (eT (eP eI eI)) (eT eI)) a0), some ((eT eI) a1), some (eI x9.1), some (eI a0.1), some ((eT (eP eI eI)) a0.2.1), some ((eT eI) a0.2.2), some ((eL eI) x9.2), none, none]) (fun x8 => (a2, a1)) (fun _ => rfl) (fun x8 => by repeat (first | exact wk_nil | apply wk_a | apply wk_s)) (fun x8 x9 x10 => (as_tp (ass_cons as_nm (ass_cons as_nm ass_nil)))) (fun x8 x9 x10 => (b_last (b_if (xt_tst (x_primT (xa_p (x_var (d := eI x9.1) 2 rfl) (fun _ => puI _) (fun x13 => (xa_p (x_var (d := (eP eI eI) x10.2) 8 rfl) (fun _ => (puP puI puI) _) (fun x14 => xa_nil)))) (fun _ => op_inP _ _))) (fun x15 => (b_asc (b_setIx (e1 := eI) (x_primT (xa_v (x_c (eI 1)) (fun x16 => (xa_v (x_prim (xa_s 6 rfl (xa_p (x_var (d := eI x10.1) 7 rfl) (fun _ => puI _) (fun x17 => xa_nil)) (fun _ => rfl) (fun _ => puL)) (fun _ _ h => op_ixL puI h)) (fun x19 => xa_nil)))) (fun _ => op_sub' _ _)) puI (fun _ => ⟨_, rfl⟩) (fun x20 => (x_var (d := eI x10.1) 7 rfl)) (fun _ _ => .inl rfl) (fun _ _ => rfl) (fun x20 x21 x22 => (b_set (x_prim (xa_p (x_var (d := (eP eI eI) x10.2) 8 rfl) (fun _ => (puP puI puI) _) (fun x24 => (xa_v (x_prim (xa_s 6 rfl (xa_p (x_var (d := eI x10.1) 7 rfl) (fun _ => puI _) (fun x25 => xa_nil)) (fun _ => rfl) (fun _ => puL)) (fun _ _ h => op_ixL puI h)) (fun x27 => xa_nil)))) (fun _ _ h => op_ixPd puI h)) (.inl rfl) (fun x29 => (b_endC (z := (x29.2, x22)) (by repeat (first | exact wk_nil | apply wk_a | apply wk_s))))))))) (fun x15 => (b_skip (b_endC (z := (x9.1, x9.2)) (by repeat (first | exact wk_nil | apply wk_a | apply wk_s)))))))) (fun x8 x9 => (b_last (b_ret (X.as (x_tup (xa_v (x_primT (xa_s 6 rfl xa_nil (fun _ => rfl) (fun _ => puL)) (fun _ => op_tupL puI _)) (fun x30 => (xa_v (x_idx (x_var (d := (eT eI) a0.2.2) 5 rfl) (fun _ => rfl) (fun x31 => (x_var (d := eI x9.1) 2 rfl)) (fun _ _ _ h => op_idx h)) (fun x33 => xa_nil)))) rfl (by decide)) (fun x34 => (eP (eT eI) eI) (x9.2, x34.2.1.2.2)) rfl) (fun x35 => (x9.2, x35.2.1.2.2)) (.inl rfl) (fun x35 => qf_ret rfl (by repeat (first | exact wk_nil | apply wk_a | apply wk_s))))))))))) (by dsimp only [p_passed_back])) rfl (by simp [okM, (puI _)]) (fun z => (coll_0P rfl (coll_0P rfl (coll_1P coll_nilP))))
theorem tok_fork_totals (a0 : (Int × (List (Int × Int)) × (List Int))) (a1 : (List Int)) : ∀ z, p_fork_totals a0 a1 = some z → f_fork_totals [(eQ eI (eT (eP eI eI)) (eT eI)) a0, (eT eI) a1] = .ok ((eP (eL eI) (eL eI)) z) [(eQ eI (eT (eP eI eI)) (eT eI)) a0, (eT eI) a1] :=
  fn_t (p0 := [some ((eQ eI (eT (eP eI eI)) (eT eI)) a0), some ((eT eI) a1), none, none, none, none, none]) (m := p_fork_totals a0 a1) (rv := fun (z : ((List Int) × (List Int))) => (eP (eL eI) (eL eI)) z) (q := fun (z : ((List Int) × (List Int))) => [some ((eQ eI (eT (eP eI eI)) (eT eI)) a0), some ((eT eI) a1), none, none, none, none, none]) (outs := fun z => [(eQ eI (eT (eP eI eI)) (eT eI)) a0, (eT eI) a1]) (B.cv (b_set (x_primT (xa_p (x_var (d := (eT eI) a1) 1 rfl) (fun _ => (puT puI) _) (fun x3 => xa_nil)) (fun _ => op_lstT puI _)) (.inl rfl) (fun x4 => (b_setL (eL eI) (X.as (x_lst xa_nil rfl (by decide)) (fun x5 => (eL eI) ([] : (List Int))) rfl) (.inl rfl) (fun x6 x7 => (b_for (xi_mk (xa_v (x_primT (xa_p (x_var (d := (eQ eI (eT (eP eI eI)) (eT eI)) a0) 0 rfl) (fun _ => (puQ puI (puT (puP puI puI)) (puT puI)) _) (fun x9 => (xa_v (x_c (eI 1)) (fun x10 => xa_nil)))) (fun _ => op_ixQ1 (puT (puP puI puI)) _)) (fun x11 => xa_nil)) rfl (puP puI puI) (fun _ => it_T _)) (fun x12 (x13 : ((List Int) × (List Int))) => [some ((eQ eI (eT (eP eI eI)) (eT eI)) a0), some ((eT eI) a1), some ((eL eI) x13.1), some ((eL eI) x13.2), none, none, none]) (fun x12 => (a1, x7)) (fun _ => rfl) (fun x12 => by repeat (first | exact wk_nil | apply wk_a | apply wk_s)) (fun x12 x13 x14 => (as_tp (ass_cons as_nm (ass_cons as_nm ass_nil)))) (fun x12 x13 x14 => (b_setL eI (x_primT (xa_v (x_prim (xa_s 2 rfl (xa_p (x_var (d := eI x14.1) 4 rfl) (fun _ => puI _) (fun x17 => xa_nil)) (fun _ => rfl) (fun _ => puL)) (fun _ _ h => op_ixL puI h)) (fun x19 => (xa_v (x_prim (xa_s 2 rfl (xa_p (x_var (d := eI x14.2) 5 rfl) (fun _ => puI _) (fun x20 => xa_nil)) (fun _ => rfl) (fun _ => puL)) (fun _ _ h => op_ixL puI h)) (fun x22 => xa_nil)))) (fun _ => op_add _ _)) (.inl rfl) (fun x23 x24 => (b_expr (x_mt rfl (xa_p (x_var (d := eI x24) 6 rfl) (fun _ => puI _) (fun x26 => xa_nil)) rfl (fun _ => rfl) (fun _ _ h => mt_app' h) (fun _ _ => rfl)) (fun x28 => (b_setIx (e1 := eI) (x_primT (xa_v (x_primT (xa_p (x_var (d := eI x24) 6 rfl) (fun _ => puI _) (fun x29 => (xa_v (x_c (eI 1)) (fun x30 => xa_nil)))) (fun _ => op_add _ _)) (fun x31 => (xa_v (x_c (eI 2)) (fun x32 => xa_nil)))) (fun _ => op_divC (by decide +kernel))) puI (fun _ => ⟨_, rfl⟩) (fun x33 => (x_var (d := eI x14.1) 4 rfl)) (fun _ _ => .inl rfl) (fun _ _ => rfl) (fun x33 x34 x35 => (b_last (b_setIx (e1 := eI) (x_primT (xa_p (x_var (d := eI x24) 6 rfl) (fun _ => puI _) (fun x37 => (xa_v (x_c (eI 2)) (fun x38 => xa_nil)))) (fun _ => op_divC (by decide +kernel))) puI (fun _ => ⟨_, rfl⟩) (fun x39 => (x_var (d := eI x14.2) 5 rfl)) (fun _ _ => .inl rfl) (fun _ _ => rfl) (fun x39 x40 x41 => (b_endC (z := (x41, x28.2)) (by repeat (first | exact wk_nil | apply wk_a | apply wk_s))))))))))))) (fun x12 x13 => (b_last (b_retT (xa_s 3 rfl (xa_s 2 rfl xa_nil (fun _ => rfl) (fun _ => puL)) (fun _ => rfl) (fun _ => puL)) rfl rfl (by decide) (fun x43 => (x13.2, x13.1)) (fun x43 => qf_ret rfl (by repeat (first | exact wk_nil | apply wk_a | apply wk_s))))))))))) (by dsimp only [p_fork_totals])) rfl (by simp [okM]) (fun z => (coll_0P rfl (coll_0P rfl coll_nilP)))
theorem tok_ends_of (a0 : (Int × (List (Int × Int)) × (List Int))) (a1 : (List Int)) : ∀ z, p_ends_of a0 a1 = some z → f_ends_of [(eQ eI (eT (eP eI eI)) (eT eI)) a0, (eT eI) a1] = .ok ((eT eI) z) [(eQ eI (eT (eP eI eI)) (eT eI)) a0, (eT eI) a1] :=
  fn_t (p0 := [some ((eQ eI (eT (eP eI eI)) (eT eI)) a0), some ((eT eI) a1), none, none, none]) (m := p_ends_of a0 a1) (rv := fun (z : (List Int)) => (eT eI) z) (q := fun (z : (List Int)) => [some ((eQ eI (eT (eP eI eI)) (eT eI)) a0), some ((eT eI) a1), none, none, none]) (outs := fun z => [(eQ eI (eT (eP eI eI)) (eT eI)) a0, (eT eI) a1]) (B.cv (b_asg (x_callP (xa_p (x_var (d := (eQ eI (eT (eP eI eI)) (eT eI)) a0) 0 rfl) (fun _ => (puQ puI (puT (puP puI puI)) (puT puI)) _) (fun x3 => (xa_p (x_var (d := (eT eI) a1) 1 rfl) (fun _ => (puT puI) _) (fun x4 => xa_nil)))) rfl (fun _ _ h => tok_fork_totals  _ _ _ h)) (.inl rfl) (fun _ => (as_tp (ass_cons as_nm (ass_cons as_nm ass_nil)))) (fun x6 => (b_last (b_ret (x_primT (xa_v (x_mapP (ee := eI) (xi_mk (xa_v (x_primT (xa_p (x_var (d := (eQ eI (eT (eP eI eI)) (eT eI)) a0) 0 rfl) (fun _ => (puQ puI (puT (puP puI puI)) (puT puI)) _) (fun x7 => (xa_v (x_c (eI 2)) (fun x8 => xa_nil)))) (fun _ => op_ixQ2 (puT puI) _)) (fun x9 => xa_nil)) rfl puI (fun _ => it_T _)) rfl (fun x10 x11 => as_nm) (fun x10 x11 => (x_prim (xa_s 3 rfl (xa_p (x_var (d := eI x11) 4 rfl) (fun _ => puI _) (fun x14 => xa_nil)) (fun _ => rfl) (fun _ => puL)) (fun _ _ h => op_ixL puI h))) (.inl rfl) (fun x10 x11 => ((atI x6.2.2 x11)).bind fun t15 => some t15) (fun _ _ => by repeat (first | exact wk_nil | apply wk_a | apply wk_s)) (by intro x y z h; simp only [] at h ⊢; repeat (first | (obtain ⟨hl, h⟩ := lim_inv h; simp only [lim_of hl]) | (obtain ⟨_, h1, h⟩ := Option.bind_eq_some_iff.mp h; simp only [h1, Option.bind_some] at h ⊢) | (cases h; rfl)))) (fun x18 => xa_nil)) (fun _ => op_tupL puI _)) (fun x19 => x19.1.2.1) (.inl rfl) (fun x19 => qf_ret rfl (by repeat (first | exact wk_nil | apply wk_a | apply wk_s))))))) (by dsimp only [p_ends_of])) rfl (by simp [okM]) (fun z => (coll_0P rfl (coll_0P rfl coll_nilP)))
theorem tok_turns_of (a0 : (Int × (List (Int × Int)) × (List Int))) (a1 : (List Int)) : ∀ z, p_turns_of a0 a1 = some z → f_turns_of [(eQ eI (eT (eP eI eI)) (eT eI)) a0, (eT eI) a1] = .ok ((eT eI) z) [(eQ eI (eT (eP eI eI)) (eT eI)) a0, (eT eI) a1] :=
  fn_t (p0 := [some ((eQ eI (eT (eP eI eI)) (eT eI)) a0), some ((eT eI) a1), none, none, none]) (m := p_turns_of a0 a1) (rv := fun (z : (List Int)) => (eT eI) z) (q := fun (z : (List Int)) => [some ((eQ eI (eT (eP eI eI)) (eT eI)) a0), some ((eT eI) a1), none, none, none]) (outs := fun z => [(eQ eI (eT (eP eI eI)) (eT eI)) a0, (eT eI) a1]) (B.cv (b_asg (x_callP (xa_p (x_var (d := (eQ eI (eT (eP eI eI)) (eT eI)) a0) 0 rfl) (fun _ => (puQ puI (puT (puP puI puI)) (puT puI)) _) (fun x3 => (xa_p (x_var (d := (eT eI) a1) 1 rfl) (fun _ => (puT puI) _) (fun x4 => xa_nil)))) rfl (fun _ _ h => tok_fork_totals  _ _ _ h)) (.inl rfl) (fun _ => (as_tp (ass_cons as_nm (ass_cons as_nm ass_nil)))) (fun x6 => (b_last (b_ret (x_primT (xa_v (x_mapT (ee := eI) (xi_mk (xa_s 2 rfl xa_nil (fun _ => rfl) (fun _ => puL)) rfl puI (fun _ => it_L _)) rfl (fun x7 x8 => as_nm) (fun x7 x8 => (x_primT (xa_p (x_var (d := eI x8) 4 rfl) (fun _ => puI _) (fun x11 => (xa_v (x_c (eI 2)) (fun x12 => xa_nil)))) (fun _ => op_modC (by decide +kernel)))) (.inl rfl) (fun _ _ => by repeat (first | exact wk_nil | apply wk_a | apply wk_s))) (fun x15 => xa_nil)) (fun _ => op_tupL puI _)) (fun x16 => x16.1.2.1) (.inl rfl) (fun x16 => qf_ret rfl (by repeat (first | exact wk_nil | apply wk_a | apply wk_s))))))) (by dsimp only [p_turns_of])) rfl (by simp [okM]) (fun z => (coll_0P rfl (coll_0P rfl coll_nilP)))
theorem tok__law_cell_at (a0 : (List Int)) (a1 : Int) : ∀ z, p__law_cell_at a0 a1 = some z → f__law_cell_at [eZ a0, eI a1] = .ok (eI z) [eZ a0, eI a1] :=
  fn_t (p0 := [some (eZ a0), some (eI a1)]) (m := p__law_cell_at a0 a1) (rv := fun (z : Int) => eI z) (q := fun (z : Int) => [some (eZ a0), some (eI a1)]) (outs := fun z => [eZ a0, eI a1]) (B.cv (b_if (xt_tst (x_primT (xa_p (x_var (d := eI a1) 1 rfl) (fun _ => puI _) (fun x3 => (xa_v (x_primT (xa_p (x_var (d := eZ a0) 0 rfl) (fun _ => puZ _) (fun x4 => xa_nil)) (fun _ => op_lenZ _)) (fun x5 => xa_nil)))) (fun _ => op_lt' _ _))) (fun x6 => (b_ret (x_prim (xa_p (x_var (d := eZ a0) 0 rfl) (fun _ => puZ _) (fun x7 => (xa_p (x_var (d := eI a1) 1 rfl) (fun _ => puI _) (fun x8 => xa_nil)))) (fun _ _ h => op_ixZ h)) (fun x10 => x10.2) (.inl rfl) (fun x10 => qf_ret rfl (by repeat (first | exact wk_nil | apply wk_a | apply wk_s))))) (fun x6 => (b_skip (b_last (b_ret (x_c (eI 0)) (fun x11 => (0 : Int)) (.inl rfl) (fun x11 => qf_ret rfl (by repeat (first | exact wk_nil | apply wk_a | apply wk_s)))))))) (by dsimp only [p__law_cell_at])) rfl (by simp [okM]) (fun z => (coll_0P rfl (coll_0P rfl coll_nilP)))
theorem tok__law_left (a0 : (List Int)) (a1 : Int) : ∀ z, p__law_left a0 a1 = some z → f__law_left [eZ a0, eI a1] = .ok ((eL eI) z) [eZ a0, eI a1] :=
  fn_t (p0 := [some (eZ a0), some (eI a1), none, none]) (m := p__law_left a0 a1) (rv := fun (z : (List Int)) => (eL eI) z) (q := fun (z : (List Int)) => [some (eZ a0), some (eI a1), none, none]) (outs := fun z => [eZ a0, eI a1]) (B.cv (b_set (x_callP (xa_p (x_var (d := eZ a0) 0 rfl) (fun _ => puZ _) (fun x3 => (xa_v (x_prim (xa_p (x_var (d := eI a1) 1 rfl) (fun _ => puI _) (fun x4 => (xa_v (x_primT (xa_v (x_c (eI 1)) (fun x5 => (xa_v (x_primT (xa_p (x_var (d := eZ a0) 0 rfl) (fun _ => puZ _) (fun x6 => xa_nil)) (fun _ => op_lenZ _)) (fun x7 => xa_nil)))) (fun _ => op_max2 _ _)) (fun x8 => xa_nil)))) (fun _ _ h => op_mod' h)) (fun x10 => xa_nil)))) rfl (fun _ _ h => tok__law_cell_at  _ _ _ h)) (.inl rfl) (fun x12 => (b_setL eI (x_primT (xa_v (x_primT (xa_v (x_primT (xa_v (x_primT (xa_v (x_primT (xa_p (x_var (d := eI x12.2) 2 rfl) (fun _ => puI _) (fun x13 => (xa_v (x_c (eI 2147483629)) (fun x14 => xa_nil)))) (fun _ => op_modC (by decide +kernel))) (fun x15 => (xa_v (x_prim (xa_v (x_primT (xa_v (x_c (eI 7919)) (fun x16 => (xa_p (x_var (d := eI a1) 1 rfl) (fun _ => puI _) (fun x17 => xa_nil)))) (fun _ => op_mulL (by decide +kernel))) (fun x18 => (xa_p (x_var (d := eI a1) 1 rfl) (fun _ => puI _) (fun x19 => xa_nil)))) (fun _ _ h => op_mul h)) (fun x21 => xa_nil)))) (fun _ => op_add _ _)) (fun x22 => (xa_v (x_c (eI 11)) (fun x23 => xa_nil)))) (fun _ => op_add _ _)) (fun x24 => (xa_v (x_c (eI 48271)) (fun x25 => xa_nil)))) (fun _ => op_mulR (by decide +kernel))) (fun x26 => (xa_v (x_c (eI 2147483647)) (fun x27 => xa_nil)))) (fun _ => op_modC (by decide +kernel))) (.inl rfl) (fun x28 x29 => (b_last (b_ret (X.as (x_lst (xa_v (x_prim (xa_v (x_primT (xa_p (x_var (d := eI x12.2) 2 rfl) (fun _ => puI _) (fun x31 => (xa_v (x_primT (xa_v (x_primT (xa_p (x_var (d := eI x12.2) 2 rfl) (fun _ => puI _) (fun x32 => (xa_v (x_primT (xa_v (x_c (eI 10)) (fun x33 => (xa_v (x_c (eI 18)) (fun x34 => xa_nil)))) (fun _ => op_powC (c := 1000000000000000000) (by decide +kernel) (by decide +kernel))) (fun x35 => xa_nil)))) (fun _ => op_ge' _ _)) (fun x36 => xa_nil)) (fun _ => op_intB _)) (fun x37 => xa_nil)))) (fun _ => op_mulB _ _)) (fun x38 => (xa_v (x_ten 4000 (by decide) (by decide)) (fun x39 => xa_nil)))) (fun _ _ h => op_mod' h)) (fun x41 => (xa_p (x_var (d := eI x29) 3 rfl) (fun _ => puI _) (fun x42 => xa_nil)))) rfl (by decide)) (fun x43 => (eL eI) [x43.1.2, x29]) rfl) (fun x44 => [x44.1.2, x29]) (.inl rfl) (fun x44 => qf_ret rfl (by repeat (first | exact wk_nil | apply wk_a | apply wk_s))))))))) (by dsimp only [p__law_left])) rfl (by simp [okM]) (fun z => (coll_0P rfl (coll_0P rfl coll_nilP)))
theorem tok__law_pick (a0 : (List Int)) (a1 : Int) : ∀ z, p__law_pick a0 a1 = some z → f__law_pick [(eL eI) a0, eI a1] = .ok (eI z.1) [(eL eI) z.2, eI a1] :=
  fn_t (p0 := [some ((eL eI) a0), some (eI a1), none]) (m := p__law_pick a0 a1) (rv := fun (z : (Int × (List Int))) => eI z.1) (q := fun (z : (Int × (List Int))) => [some ((eL eI) z.2), some (eI a1), none]) (outs := fun z => [(eL eI) z.2, eI a1]) (B.cv (b_if (xt_tst (x_primT (xa_v (x_prim (xa_s 0 rfl (xa_v (x_c (eI 0)) (fun x3 => xa_nil)) (fun _ => rfl) (fun _ => puL)) (fun _ _ h => op_ixL puI h)) (fun x5 => (xa_v (x_c (eI 0)) (fun x6 => xa_nil)))) (fun _ => op_gt' _ _))) (fun x7 => (b_asc (b_set (x_prim (xa_v (x_prim (xa_s 0 rfl (xa_v (x_c (eI 0)) (fun x8 => xa_nil)) (fun _ => rfl) (fun _ => puL)) (fun _ _ h => op_ixL puI h)) (fun x10 => (xa_p (x_var (d := eI a1) 1 rfl) (fun _ => puI _) (fun x11 => xa_nil)))) (fun _ _ h => op_mod' h)) (.inl rfl) (fun x13 => (b_asc (b_setIx (e1 := eI) (x_prim (xa_v (x_prim (xa_s 0 rfl (xa_v (x_c (eI 0)) (fun x14 => xa_nil)) (fun _ => rfl) (fun _ => puL)) (fun _ _ h => op_ixL puI h)) (fun x16 => (xa_p (x_var (d := eI a1) 1 rfl) (fun _ => puI _) (fun x17 => xa_nil)))) (fun _ _ h => op_div h)) puI (fun _ => ⟨_, rfl⟩) (fun x19 => (x_c (eI 0))) (fun _ _ => .inl rfl) (fun _ _ => rfl) (fun x19 x20 x21 => (b_ret (x_var (d := eI x13.2) 2 rfl) (fun x23 => (x13.2, x21)) (.inr (fun _ => puI _)) (fun x23 => qf_ret rfl (by repeat (first | exact wk_nil | apply wk_a | apply wk_s))))))))))) (fun x7 => (b_skip (b_setIx (e1 := eI) (x_primT (xa_v (x_primT (xa_v (x_primT (xa_v (x_prim (xa_s 0 rfl (xa_v (x_c (eI 1)) (fun x24 => xa_nil)) (fun _ => rfl) (fun _ => puL)) (fun _ _ h => op_ixL puI h)) (fun x26 => (xa_v (x_c (eI 48271)) (fun x27 => xa_nil)))) (fun _ => op_mulR (by decide +kernel))) (fun x28 => (xa_v (x_c (eI 12345)) (fun x29 => xa_nil)))) (fun _ => op_add _ _)) (fun x30 => (xa_v (x_c (eI 2147483647)) (fun x31 => xa_nil)))) (fun _ => op_modC (by decide +kernel))) puI (fun _ => ⟨_, rfl⟩) (fun x32 => (x_c (eI 1))) (fun _ _ => .inl rfl) (fun _ _ => rfl) (fun x32 x33 x34 => (b_last (b_ret (x_prim (xa_v (x_primT (xa_v (x_prim (xa_v (x_prim (xa_s 0 rfl (xa_v (x_c (eI 1)) (fun x36 => xa_nil)) (fun _ => rfl) (fun _ => puL)) (fun _ _ h => op_ixL puI h)) (fun x38 => (xa_v (x_prim (xa_s 0 rfl (xa_v (x_c (eI 1)) (fun x39 => xa_nil)) (fun _ => rfl) (fun _ => puL)) (fun _ _ h => op_ixL puI h)) (fun x41 => xa_nil)))) (fun _ _ h => op_mul h)) (fun x43 => (xa_v (x_c (eI 1999999973)) (fun x44 => xa_nil)))) (fun _ => op_modC (by decide +kernel))) (fun x45 => (xa_p (x_var (d := eI a1) 1 rfl) (fun _ => puI _) (fun x46 => xa_nil)))) (fun _ _ h => op_mod' h)) (fun x48 => (x48.2, x34)) (.inl rfl) (fun x48 => qf_ret rfl (by repeat (first | exact wk_nil | apply wk_a | apply wk_s)))))))))) (by dsimp only [p__law_pick])) rfl (by simp [okM]) (fun z => (coll_0P rfl (coll_0P rfl coll_nilP)))
theorem tok__law_net (a0 : (List Int)) (a1 : Int) : ∀ z, p__law_net a0 a1 = some z → f__law_net [(eL eI) a0, eI a1] = .ok ((eQ eI (eT (eP eI eI)) (eT eI)) z.1) [(eL eI) z.2, eI a1] :=
  fn_t (p0 := [some ((eL eI) a0), some (eI a1), none, none, none, none, none, none, none, none]) (m := p__law_net a0 a1) (rv := fun (z : ((Int × (List (Int × Int)) × (List Int)) × (List Int))) => (eQ eI (eT (eP eI eI)) (eT eI)) z.1) (q := fun (z : ((Int × (List (Int × Int)) × (List Int)) × (List Int))) => [some ((eL eI) z.2), some (eI a1), none, none, none, none, none, none, none, none]) (outs := fun z => [(eL eI) z.2, eI a1]) (B.cv (b_set (x_prim (xa_v (X.as (x_lst (xa_v (x_c (eI 2)) (fun x3 => (xa_v (x_c (eI 3)) (fun x4 => (xa_v (x_c (eI 4)) (fun x5 => (xa_v (x_c (eI 2)) (fun x6 => (xa_v (x_c (eI 4)) (fun x7 => (xa_v (x_c (eI 5)) (fun x8 => (xa_v (x_c (eI 8)) (fun x9 => (xa_v (x_c (eI 6)) (fun x10 => (xa_v (x_c (eI 1)) (fun x11 => (xa_v (x_c (eI 16)) (fun x12 => xa_nil)))))))))))))))))))) rfl (by decide)) (fun x13 => (eL eI) [(2 : Int), (3 : Int), (4 : Int), (2 : Int), (4 : Int), (5 : Int), (8 : Int), (6 : Int), (1 : Int), (16 : Int)]) rfl) (fun x14 => (xa_v (x_call (xa_s 0 rfl (xa_v (x_c (eI 10)) (fun x15 => xa_nil)) (fun _ => rfl) (fun _ => puL)) rfl (fun _ _ h => tok__law_pick  _ _ _ h) (fun _ _ => rfl) (fun _ (zz : Int × (List Int)) => [(0, (eL eI) zz.2)]) (fun _ _ => rfl)) (fun x17 => xa_nil)))) (fun _ _ h => op_ixL puI h)) (.inl rfl) (fun x19 => (b_setL (eL (eP eI eI)) (X.as (x_lst xa_nil rfl (by decide)) (fun x20 => (eL (eP eI eI)) ([] : (List (Int × Int)))) rfl) (.inl rfl) (fun x21 x22 => (b_for (xi_mkP (xa_v (x_primT (xa_v (x_prim (xa_v (X.as (x_lst (xa_v (x_c (eI 0)) (fun x24 => (xa_v (x_c (eI 1)) (fun x25 => (xa_v (x_c (eI 2)) (fun x26 => (xa_v (x_c (eI 3)) (fun x27 => (xa_v (x_c (eI 5)) (fun x28 => (xa_v (x_c (eI 8)) (fun x29 => (xa_v (x_c (eI 12)) (fun x30 => (xa_p (x_var (d := eI a1) 1 rfl) (fun _ => puI _) (fun x31 => xa_nil)))))))))))))))) rfl (by decide)) (fun x32 => (eL eI) [(0 : Int), (1 : Int), (2 : Int), (3 : Int), (5 : Int), (8 : Int), (12 : Int), a1]) rfl) (fun x33 => (xa_v (x_call (xa_s 0 rfl (xa_v (x_c (eI 8)) (fun x34 => xa_nil)) (fun _ => rfl) (fun _ => puL)) rfl (fun _ _ h => tok__law_pick  _ _ _ h) (fun _ _ => rfl) (fun _ (zz : Int × (List Int)) => [(0, (eL eI) zz.2)]) (fun _ _ => rfl)) (fun x36 => xa_nil)))) (fun _ _ h => op_ixL puI h)) (fun x38 => (xa_v (x_primT (xa_v (x_primT (xa_p (x_var (d := eI x19.2) 2 rfl) (fun _ => puI _) (fun x39 => (xa_v (x_c (eI 1)) (fun x40 => xa_nil)))) (fun _ => op_gt' _ _)) (fun x41 => xa_nil)) (fun _ => op_intB _)) (fun x42 => xa_nil)))) (fun _ => op_mulB _ _)) (fun x43 => xa_nil)) rfl puI (fun _ _ h => it_r1 h)) (fun x45 (x46 : ((List Int) × (List (Int × Int)))) => [some ((eL eI) x46.1), some (eI a1), some (eI x19.2), some ((eL (eP eI eI)) x46.2), none, none, none, none, none, none]) (fun x45 => (x45.1.1.1.1.2.1.2.2, x22)) (fun _ => rfl) (fun x45 => by repeat (first | exact wk_nil | apply wk_a | apply wk_s)) (fun x45 x46 x47 => as_nm) (fun x45 x46 x47 => (b_set (x_call (xa_s 0 rfl (xa_p (x_var (d := eI x19.2) 2 rfl) (fun _ => puI _) (fun x50 => xa_nil)) (fun _ => rfl) (fun _ => puL)) rfl (fun _ _ h => tok__law_pick  _ _ _ h) (fun _ _ => rfl) (fun _ (zz : Int × (List Int)) => [(0, (eL eI) zz.2)]) (fun _ _ => rfl)) (.inl rfl) (fun x52 => (b_setL (eP eI eI) (X.as (x_tup (xa_n 5 rfl (xa_v (x_prim (xa_v (x_primT (xa_v (x_primT (xa_p (x_var (d := eI x52.2.1) 5 rfl) (fun _ => puI _) (fun x54 => (xa_v (x_c (eI 1)) (fun x55 => xa_nil)))) (fun _ => op_add _ _)) (fun x56 => (xa_v (x_call (xa_s 0 rfl (xa_v (x_primT (xa_v (x_c (eI 1)) (fun x57 => (xa_v (x_primT (xa_p (x_var (d := eI x19.2) 2 rfl) (fun _ => puI _) (fun x58 => (xa_v (x_c (eI 1)) (fun x59 => xa_nil)))) (fun _ => op_sub' _ _)) (fun x60 => xa_nil)))) (fun _ => op_max2 _ _)) (fun x61 => xa_nil)) (fun _ => rfl) (fun _ => puL)) rfl (fun _ _ h => tok__law_pick  _ _ _ h) (fun _ _ => rfl) (fun _ (zz : Int × (List Int)) => [(0, (eL eI) zz.2)]) (fun _ _ => rfl)) (fun x63 => xa_nil)))) (fun _ => op_add _ _)) (fun x64 => (xa_p (x_var (d := eI x19.2) 2 rfl) (fun _ => puI _) (fun x65 => xa_nil)))) (fun _ _ h => op_mod' h)) (fun x67 => xa_nil)) (fun _ => rfl) (puI _)) rfl (by decide)) (fun x68 => (eP eI eI) (x52.2.1, x68.1.2)) rfl) (.inl rfl) (fun x69 x70 => (b_set (x_call (xa_s 0 rfl (xa_v (x_c (eI 6)) (fun x72 => xa_nil)) (fun _ => rfl) (fun _ => puL)) rfl (fun _ _ h => tok__law_pick  _ _ _ h) (fun _ _ => rfl) (fun _ (zz : Int × (List Int)) => [(0, (eL eI) zz.2)]) (fun _ _ => rfl)) (.inl rfl) (fun x74 => (b_ifj (xt_andT (xt_tst (x_primT (xa_s 3 rfl (xa_v (X.as (x_lst xa_nil rfl (by decide)) (fun x75 => (eL (eP eI eI)) ([] : (List (Int × Int)))) rfl) (fun x76 => xa_nil)) (fun _ => rfl) (fun _ => puL)) (fun _ => op_ne (eqL (eqP eqI eqI)) (by decide) _ _))) (fun x77 => (xt_tst (x_primT (xa_p (x_var (d := eI x74.2.1) 7 rfl) (fun _ => puI _) (fun x78 => (xa_v (x_c (eI 2)) (fun x79 => xa_nil)))) (fun _ => op_lt' _ _))))) (fun x80 (x98 : ((Int × Int))) => [some ((eL eI) x74.2.2), some (eI a1), some (eI x19.2), some ((eL (eP eI eI)) x46.2), some (eI x47), some (eI x52.2.1), some ((eP eI eI) x98), some (eI x74.2.1), none, none]) (fun x80 => (b_last (b_set (x_prim (xa_v (X.as (x_lst (xa_v (x_prim (xa_s 3 rfl (xa_v (x_primT (xa_v (x_c (eI 1)) (fun x81 => xa_nil)) (fun _ => op_neg _)) (fun x82 => xa_nil)) (fun _ => rfl) (fun _ => puL)) (fun _ _ h => op_ixL (puP puI puI) h)) (fun x84 => (xa_v (x_stT (x_prim (xa_s 3 rfl (xa_v (x_primT (xa_v (x_c (eI 1)) (fun x85 => xa_nil)) (fun _ => op_neg _)) (fun x86 => xa_nil)) (fun _ => rfl) (fun _ => puL)) (fun _ _ h => op_ixL (puP puI puI) h)) (fun x88 => xpr_none) (fun x88 x89 => xpr_none) (fun x88 x89 x90 => (xpr_some (x_primT (xa_v (x_c (eI 1)) (fun x91 => xa_nil)) (fun _ => op_neg _)))) (fun _ _ _ _ => op_revP puI puI _)) (fun x92 => xa_nil)))) rfl (by decide)) (fun x93 => (eL (eP eI eI)) [x93.1.2, (x93.2.1.1.2.2, x93.2.1.1.2.1)]) rfl) (fun x94 => (xa_p (x_var (d := eI x74.2.1) 7 rfl) (fun _ => puI _) (fun x95 => xa_nil)))) (fun _ _ h => op_ixL (puP puI puI) h)) (.inl rfl) (fun x97 => (b_end (z := x97.2) (by repeat (first | exact wk_nil | apply wk_a | apply wk_s))))))) (fun x80 => (b_end (z := x70) (by repeat (first | exact wk_nil | apply wk_a | apply wk_s)))) (fun x80 x98 => (b_last (b_expr (x_mt rfl (xa_p (x_var (d := (eP eI eI) x98) 6 rfl) (fun _ => (puP puI puI) _) (fun x100 => xa_nil)) rfl (fun _ => rfl) (fun _ _ h => mt_app' h) (fun _ _ => rfl)) (fun x102 => (b_endC (z := (x74.2.2, x102.2)) (by repeat (first | exact wk_nil | apply wk_a | apply wk_s))))))))))))))) (fun x45 x46 => (b_setL (eL eI) (X.as (x_lst xa_nil rfl (by decide)) (fun x103 => (eL eI) ([] : (List Int))) rfl) (.inl rfl) (fun x104 x105 => (b_for (xi_mkP (xa_p (x_var (d := eI x19.2) 2 rfl) (fun _ => puI _) (fun x107 => xa_nil)) rfl puI (fun _ _ h => it_r1 h)) (fun x109 (x110 : ((List Int) × (List Int))) => [some ((eL eI) x110.1), some (eI a1), some (eI x19.2), some ((eL (eP eI eI)) x46.2), none, none, none, none, some ((eL eI) x110.2), none]) (fun x109 => (x46.1, x105)) (fun _ => rfl) (fun x109 => by repeat (first | exact wk_nil | apply wk_a | apply wk_s)) (fun x109 x110 x111 => as_nm) (fun x109 x110 x111 => (b_last (b_expr (x_mt rfl (xa_v (x_call (xa_s 0 rfl (xa_v (x_primT (xa_v (x_primT (xa_s 8 rfl xa_nil (fun _ => rfl) (fun _ => puL)) (fun _ => op_lenL _)) (fun x114 => (xa_v (x_c (eI 1)) (fun x115 => xa_nil)))) (fun _ => op_add _ _)) (fun x116 => xa_nil)) (fun _ => rfl) (fun _ => puL)) rfl (fun _ _ h => tok__law_pick  _ _ _ h) (fun _ _ => rfl) (fun _ (zz : Int × (List Int)) => [(0, (eL eI) zz.2)]) (fun _ _ => rfl)) (fun x118 => (xa_p (x_var (d := eI x111) 9 rfl) (fun _ => puI _) (fun x119 => xa_nil)))) rfl (fun _ => rfl) (fun _ _ h => mt_ins' puI h) (fun _ _ => rfl)) (fun x121 => (b_endC (z := (x121.1.1.2.2, x121.2)) (by repeat (first | exact wk_nil | apply wk_a | apply wk_s))))))) (fun x109 x110 => (b_last (b_ret (X.as (x_tup (xa_n 2 rfl (xa_v (x_primT (xa_s 3 rfl xa_nil (fun _ => rfl) (fun _ => puL)) (fun _ => op_tupL (puP puI puI) _)) (fun x123 => (xa_v (x_prim (xa_v (X.as (x_lst (xa_v (x_primT (xa_s 8 rfl xa_nil (fun _ => rfl) (fun _ => puL)) (fun _ => op_tupL puI _)) (fun x124 => (xa_v (x_prim (xa_p (x_var (d := eI x19.2) 2 rfl) (fun _ => puI _) (fun x125 => xa_nil)) (fun _ _ h => op_trg1 h)) (fun x127 => xa_nil)))) rfl (by decide)) (fun x128 => (eL (eT eI)) [x110.2, x128.2.1.2]) rfl) (fun x129 => (xa_v (x_call (xa_s 0 rfl (xa_v (x_c (eI 2)) (fun x130 => xa_nil)) (fun _ => rfl) (fun _ => puL)) rfl (fun _ _ h => tok__law_pick  _ _ _ h) (fun _ _ => rfl) (fun _ (zz : Int × (List Int)) => [(0, (eL eI) zz.2)]) (fun _ _ => rfl)) (fun x132 => xa_nil)))) (fun _ _ h => op_ixL (puT puI) h)) (fun x134 => xa_nil)))) (fun _ => rfl) (puI _)) rfl (by decide)) (fun x135 => (eQ eI (eT (eP eI eI)) (eT eI)) (x19.2, x46.2, x135.2.1.2)) rfl) (fun x136 => ((x19.2, x46.2, x136.2.1.2), x136.2.1.1.2.1.2.2)) (.inl rfl) (fun x136 => qf_ret rfl (by repeat (first | exact wk_nil | apply wk_a | apply wk_s))))))))))))))) (by dsimp only [p__law_net])) rfl (by simp [okM]) (fun z => (coll_0P rfl (coll_0P rfl coll_nilP)))
theorem tok__law_come (a0 : (Int × (List (Int × Int)) × (List Int))) (a1 : (List (Int × Int))) : ∀ z, p__law_come a0 a1 = some z → f__law_come [(eQ eI (eT (eP eI eI)) (eT eI)) a0, (eF (eP eI eI)) a1] = .ok ((eP (eT eI) (eT eI)) z) [(eQ eI (eT (eP eI eI)) (eT eI)) a0, (eF (eP eI eI)) a1] :=
  fn_t (p0 := [some ((eQ eI (eT (eP eI eI)) (eT eI)) a0), some ((eF (eP eI eI)) a1), none, none, none, none, none]) (m := p__law_come a0 a1) (rv := fun (z : ((List Int) × (List Int))) => (eP (eT eI) (eT eI)) z) (q := fun (z : ((List Int) × (List Int))) => [some ((eQ eI (eT (eP eI eI)) (eT eI)) a0), some ((eF (eP eI eI)) a1), none, none, none, none, none]) (outs := fun z => [(eQ eI (eT (eP eI eI)) (eT eI)) a0, (eF (eP eI eI)) a1]) (B.cv (b_par (xa_v (x_prim (xa_v (X.as (x_tup (xa_v (x_c (eI 0)) (fun x3 => xa_nil)) rfl (by decide)) (fun x4 => (eT eI) [(0 : Int)]) rfl) (fun x5 => (xa_v (x_primT (xa_v (x_primT (xa_p (x_var (d := (eQ eI (eT (eP eI eI)) (eT eI)) a0) 0 rfl) (fun _ => (puQ puI (puT (puP puI puI)) (puT puI)) _) (fun x6 => (xa_v (x_c (eI 1)) (fun x7 => xa_nil)))) (fun _ => op_ixQ1 (puT (puP puI puI)) _)) (fun x8 => xa_nil)) (fun _ => op_lenT _)) (fun x9 => xa_nil)))) (fun _ _ h => op_repT' puI h)) (fun x11 => (xa_v (x_prim (xa_v (X.as (x_lst (xa_v (x_c (eI 0)) (fun x12 => xa_nil)) rfl (by decide)) (fun x13 => (eL eI) [(0 : Int)]) rfl) (fun x14 => (xa_v (x_primT (xa_p (x_var (d := (eQ eI (eT (eP eI eI)) (eT eI)) a0) 0 rfl) (fun _ => (puQ puI (puT (puP puI puI)) (puT puI)) _) (fun x15 => (xa_v (x_c (eI 0)) (fun x16 => xa_nil)))) (fun _ => op_ixQ0 puI _)) (fun x17 => xa_nil)))) (fun _ _ h => op_repL puI h)) (fun x19 => xa_nil)))) rfl (fun _ => rfl) (fun _ => put2) (fun x20 => (b_for (xi_mk (xa_p (x_var (d := (eF (eP eI eI)) a1) 1 rfl) (fun _ => puF _) (fun x21 => xa_nil)) rfl (puP puI puI) (fun _ => it_F _)) (fun x22 (x23 : ((List Int) × (List Int))) => [some ((eQ eI (eT (eP eI eI)) (eT eI)) a0), some ((eF (eP eI eI)) a1), some ((eT eI) x23.1), some ((eL eI) x23.2), none, none, none]) (fun x22 => (x20.1.2, x20.2.1.2)) (fun _ => rfl) (fun x22 => by repeat (first | exact wk_nil | apply wk_a | apply wk_s)) (fun x22 x23 x24 => (as_tp (ass_cons as_nm (ass_cons as_nm ass_nil)))) (fun x22 x23 x24 => (b_ifj (xt_tst (x_primT (xa_p (x_var (d := eI x24.2) 5 rfl) (fun _ => puI _) (fun x27 => (xa_v (x_c (eI 1)) (fun x28 => xa_nil)))) (fun _ => op_eq eqI (by decide) _ _))) (fun x29 (x40 : ((List Int) × Int)) => [some ((eQ eI (eT (eP eI eI)) (eT eI)) a0), some ((eF (eP eI eI)) a1), some ((eT eI) x40.1), some ((eL eI) x23.2), some (eI x24.1), some (eI x24.2), some (eI x40.2)]) (fun x29 => (b_last (b_asg (x_callP (xa_p (x_var (d := (eQ eI (eT (eP eI eI)) (eT eI)) a0) 0 rfl) (fun _ => (puQ puI (puT (puP puI puI)) (puT puI)) _) (fun x30 => (xa_p (x_var (d := (eT eI) x23.1) 2 rfl) (fun _ => (puT puI) _) (fun x31 => (xa_p (x_var (d := eI x24.1) 4 rfl) (fun _ => puI _) (fun x32 => xa_nil)))))) rfl (fun _ _ h => tok_passed  _ _ _ _ h)) (.inl rfl) (fun _ => (as_tp (ass_cons as_nm (ass_cons as_nm ass_nil)))) (fun x34 => (b_end (z := (x34.2.1, x34.2.2)) (by repeat (first | exact wk_nil | apply wk_a | apply wk_s))))))) (fun x29 => (b_last (b_asg (x_callP (xa_p (x_var (d := (eQ eI (eT (eP eI eI)) (eT eI)) a0) 0 rfl) (fun _ => (puQ puI (puT (puP puI puI)) (puT puI)) _) (fun x35 => (xa_p (x_var (d := (eT eI) x23.1) 2 rfl) (fun _ => (puT puI) _) (fun x36 => (xa_p (x_var (d := eI x24.1) 4 rfl) (fun _ => puI _) (fun x37 => xa_nil)))))) rfl (fun _ _ h => tok_passed_back  _ _ _ _ h)) (.inl rfl) (fun _ => (as_tp (ass_cons as_nm (ass_cons as_nm ass_nil)))) (fun x39 => (b_end (z := (x39.2.1, x39.2.2)) (by repeat (first | exact wk_nil | apply wk_a | apply wk_s))))))) (fun x29 x40 => (b_last (b_setIx (e1 := eI) (x_primT (xa_v (x_prim (xa_s 3 rfl (xa_p (x_var (d := eI x40.2) 6 rfl) (fun _ => puI _) (fun x42 => xa_nil)) (fun _ => rfl) (fun _ => puL)) (fun _ _ h => op_ixL puI h)) (fun x44 => (xa_p (x_var (d := eI x24.2) 5 rfl) (fun _ => puI _) (fun x45 => xa_nil)))) (fun _ => op_add _ _)) puI (fun _ => ⟨_, rfl⟩) (fun x46 => (x_var (d := eI x40.2) 6 rfl)) (fun _ _ => .inl rfl) (fun _ _ => rfl) (fun x46 x47 x48 => (b_endC (z := (x40.1, x48)) (by repeat (first | exact wk_nil | apply wk_a | apply wk_s))))))))) (fun x22 x23 => (b_last (b_ret (X.as (x_tup (xa_v (x_primT (xa_s 3 rfl xa_nil (fun _ => rfl) (fun _ => puL)) (fun _ => op_tupL puI _)) (fun x50 => (xa_p (x_var (d := (eT eI) x23.1) 2 rfl) (fun _ => (puT puI) _) (fun x51 => xa_nil)))) rfl (by decide)) (fun x52 => (eP (eT eI) (eT eI)) (x23.2, x23.1)) rfl) (fun x53 => (x23.2, x23.1)) (.inl rfl) (fun x53 => qf_ret rfl (by repeat (first | exact wk_nil | apply wk_a | apply wk_s))))))))) (by dsimp only [p__law_come])) rfl (by simp [okM]) (fun z => (coll_0P rfl (coll_0P rfl coll_nilP)))
theorem tok__law_shuffled (a0 : (List Int)) (a1 : (List (Int × Int))) : ∀ z, p__law_shuffled a0 a1 = some z → f__law_shuffled [(eL eI) a0, (eL (eP eI eI)) a1] = .ok ((eL (eP eI eI)) z.1) [(eL eI) z.2, (eL (eP eI eI)) a1] :=
  fn_t (p0 := [some ((eL eI) a0), some ((eL (eP eI eI)) a1), none, none]) (m := p__law_shuffled a0 a1) (rv := fun (z : ((List (Int × Int)) × (List Int))) => (eL (eP eI eI)) z.1) (q := fun (z : ((List (Int × Int)) × (List Int))) => [some ((eL eI) z.2), some ((eL (eP eI eI)) a1), none, none]) (outs := fun z => [(eL eI) z.2, (eL (eP eI eI)) a1]) (B.cv (b_setL (eL (eP eI eI)) (X.as (x_lst xa_nil rfl (by decide)) (fun x3 => (eL (eP eI eI)) ([] : (List (Int × Int)))) rfl) (.inl rfl) (fun x4 x5 => (b_for (xi_mk (xa_s 1 rfl xa_nil (fun _ => rfl) (fun _ => puL)) rfl (puP puI puI) (fun _ => it_L _)) (fun x7 (x8 : ((List Int) × (List (Int × Int)))) => [some ((eL eI) x8.1), none, some ((eL (eP eI eI)) x8.2), none]) (fun x7 => (a0, x5)) (fun _ => rfl) (fun x7 => by repeat (first | exact wk_nil | apply wk_a | apply wk_s)) (fun x7 x8 x9 => as_nm) (fun x7 x8 x9 => (b_last (b_expr (x_mt rfl (xa_v (x_call (xa_s 0 rfl (xa_v (x_primT (xa_v (x_primT (xa_s 2 rfl xa_nil (fun _ => rfl) (fun _ => puL)) (fun _ => op_lenL _)) (fun x12 => (xa_v (x_c (eI 1)) (fun x13 => xa_nil)))) (fun _ => op_add _ _)) (fun x14 => xa_nil)) (fun _ => rfl) (fun _ => puL)) rfl (fun _ _ h => tok__law_pick  _ _ _ h) (fun _ _ => rfl) (fun _ (zz : Int × (List Int)) => [(0, (eL eI) zz.2)]) (fun _ _ => rfl)) (fun x16 => (xa_p (x_var (d := (eP eI eI) x9) 3 rfl) (fun _ => (puP puI puI) _) (fun x17 => xa_nil)))) rfl (fun _ => rfl) (fun _ _ h => mt_ins' (puP puI puI) h) (fun _ _ => rfl)) (fun x19 => (b_endC (z := (x19.1.1.2.2, x19.2)) (by repeat (first | exact wk_nil | apply wk_a | apply wk_s))))))) (fun x7 x8 => (b_last (b_retS (R := (x8.2, x8.1)) (i := 2) rfl rfl (qf_ret rfl (by repeat (first | exact wk_nil | apply wk_a | apply wk_s))))))))) (by dsimp only [p__law_shuffled])) rfl (by simp [okM]) (fun z => (coll_0P rfl (coll_0P rfl coll_nilP)))
theorem tok_law (a0 : (List Int)) : ∀ z, p_law a0 = some z → f_law [eZ a0] = .ok (eB z) [eZ a0] :=
  fn_t (p0 := [some (eZ a0), none, none, none, none, none, none, none, none, none, none, none]) (m := p_law a0) (rv := fun (z : Bool) => eB z) (q := fun (z : Bool) => [some (eZ a0), none, none, none, none, none, none, none, none, none, none, none]) (outs := fun z => [eZ a0]) (B.cv (b_forR (xi_mkP (xa_v (x_primT (xa_v (x_c (eI 6)) (fun x2 => (xa_v (x_primT (xa_v (x_c (eI 20)) (fun x3 => (xa_v (x_primT (xa_p (x_var (d := eZ a0) 0 rfl) (fun _ => puZ _) (fun x4 => xa_nil)) (fun _ => op_lenZ _)) (fun x5 => xa_nil)))) (fun _ => op_min2 _ _)) (fun x6 => xa_nil)))) (fun _ => op_max2 _ _)) (fun x7 => xa_nil)) rfl puI (fun _ _ h => it_r1 h)) (fun x9 (x10 : Unit) => [some (eZ a0), none, none, none, none, none, none, none, none, none, none, none]) (fun x9 => ()) (fun (z : Bool) => eB z) (fun x9 x149 => [some (eZ a0), none, none, none, none, none, none, none, none, none, none, none]) (fun z => z) (fun _ => rfl) (fun x9 => by repeat (first | exact wk_nil | apply wk_a | apply wk_s)) (fun x9 x10 x11 => as_nm) (fun x9 x10 x11 => (b_set (x_callP (xa_p (x_var (d := eZ a0) 0 rfl) (fun _ => puZ _) (fun x14 => (xa_p (x_var (d := eI x11) 1 rfl) (fun _ => puI _) (fun x15 => xa_nil)))) rfl (fun _ _ h => tok__law_left  _ _ _ h)) (.inl rfl) (fun x17 => (b_set (x_call (xa_s 2 rfl (xa_v (x_c (eI 40)) (fun x18 => xa_nil)) (fun _ => rfl) (fun _ => puL)) rfl (fun _ _ h => tok__law_net  _ _ _ h) (fun _ _ => rfl) (fun _ (zz : (Int × (List (Int × Int)) × (List Int)) × (List Int)) => [(2, (eL eI) zz.2)]) (fun _ _ => rfl)) (.inl rfl) (fun x20 => (b_setL (eL (eP eI eI)) (X.as (x_lst xa_nil rfl (by decide)) (fun x21 => (eL (eP eI eI)) ([] : (List (Int × Int)))) rfl) (.inl rfl) (fun x22 x23 => (b_for (xi_mkP (xa_v (x_prim (xa_v (X.as (x_lst (xa_v (x_c (eI 0)) (fun x25 => (xa_v (x_c (eI 2)) (fun x26 => (xa_v (x_c (eI 9)) (fun x27 => (xa_v (x_c (eI 30)) (fun x28 => xa_nil)))))))) rfl (by decide)) (fun x29 => (eL eI) [(0 : Int), (2 : Int), (9 : Int), (30 : Int)]) rfl) (fun x30 => (xa_v (x_call (xa_s 2 rfl (xa_v (x_c (eI 4)) (fun x31 => xa_nil)) (fun _ => rfl) (fun _ => puL)) rfl (fun _ _ h => tok__law_pick  _ _ _ h) (fun _ _ => rfl) (fun _ (zz : Int × (List Int)) => [(2, (eL eI) zz.2)]) (fun _ _ => rfl)) (fun x33 => xa_nil)))) (fun _ _ h => op_ixL puI h)) (fun x35 => xa_nil)) rfl puI (fun _ _ h => it_r1 h)) (fun x37 (x38 : ((List Int) × (List (Int × Int)))) => [some (eZ a0), some (eI x11), some ((eL eI) x38.1), some ((eQ eI (eT (eP eI eI)) (eT eI)) x20.2.1), some ((eL (eP eI eI)) x38.2), none, none, none, none, none, none, none]) (fun x37 => (x37.1.1.1.2.1.2.2, x23)) (fun _ => rfl) (fun x37 => by repeat (first | exact wk_nil | apply wk_a | apply wk_s)) (fun x37 x38 x39 => as_nm) (fun x37 x38 x39 => (b_last (b_expr (x_mt rfl (xa_v (X.as (x_tup (xa_v (x_call (xa_s 2 rfl (xa_v (x_primT (xa_p (x_var (d := (eQ eI (eT (eP eI eI)) (eT eI)) x20.2.1) 3 rfl) (fun _ => (puQ puI (puT (puP puI puI)) (puT puI)) _) (fun x42 => (xa_v (x_c (eI 0)) (fun x43 => xa_nil)))) (fun _ => op_ixQ0 puI _)) (fun x44 => xa_nil)) (fun _ => rfl) (fun _ => puL)) rfl (fun _ _ h => tok__law_pick  _ _ _ h) (fun _ _ => rfl) (fun _ (zz : Int × (List Int)) => [(2, (eL eI) zz.2)]) (fun _ _ => rfl)) (fun x46 => (xa_v (x_prim (xa_v (X.as (x_lst (xa_v (x_c (eI 1)) (fun x47 => (xa_v (x_c (eI 1)) (fun x48 => (xa_v (x_primT (xa_v (x_c (eI 1)) (fun x49 => xa_nil)) (fun _ => op_neg _)) (fun x50 => xa_nil)))))) rfl (by decide)) (fun x51 => (eL eI) [(1 : Int), (1 : Int), (-(1 : Int))]) rfl) (fun x52 => (xa_v (x_call (xa_s 2 rfl (xa_v (x_c (eI 3)) (fun x53 => xa_nil)) (fun _ => rfl) (fun _ => puL)) rfl (fun _ _ h => tok__law_pick  _ _ _ h) (fun _ _ => rfl) (fun _ (zz : Int × (List Int)) => [(2, (eL eI) zz.2)]) (fun _ _ => rfl)) (fun x55 => xa_nil)))) (fun _ _ h => op_ixL puI h)) (fun x57 => xa_nil)))) rfl (by decide)) (fun x58 => (eP eI eI) (x58.1.2.1, x58.2.1.2)) rfl) (fun x59 => xa_nil)) rfl (fun _ => rfl) (fun _ _ h => mt_app' h) (fun _ _ => rfl)) (fun x61 => (b_endC (z := (x61.1.1.2.1.1.2.1.2.2, x61.2)) (by repeat (first | exact wk_nil | apply wk_a | apply wk_s))))))) (fun x37 x38 => (b_setL (eL (eP eI eI)) (X.as (x_lst xa_nil rfl (by decide)) (fun x62 => (eL (eP eI eI)) ([] : (List (Int × Int)))) rfl) (.inl rfl) (fun x63 x64 => (b_for (xi_mkP (xa_v (x_call (xa_s 2 rfl (xa_v (x_c (eI 5)) (fun x66 => xa_nil)) (fun _ => rfl) (fun _ => puL)) rfl (fun _ _ h => tok__law_pick  _ _ _ h) (fun _ _ => rfl) (fun _ (zz : Int × (List Int)) => [(2, (eL eI) zz.2)]) (fun _ _ => rfl)) (fun x68 => xa_nil)) rfl puI (fun _ _ h => it_r1 h)) (fun x70 (x71 : ((List Int) × (List (Int × Int)))) => [some (eZ a0), some (eI x11), some ((eL eI) x71.1), some ((eQ eI (eT (eP eI eI)) (eT eI)) x20.2.1), some ((eL (eP eI eI)) x38.2), none, some ((eL (eP eI eI)) x71.2), none, none, none, none, none]) (fun x70 => (x70.1.1.2.2, x64)) (fun _ => rfl) (fun x70 => by repeat (first | exact wk_nil | apply wk_a | apply wk_s)) (fun x70 x71 x72 => as_nm) (fun x70 x71 x72 => (b_set (x_call (xa_s 2 rfl (xa_v (x_primT (xa_p (x_var (d := (eQ eI (eT (eP eI eI)) (eT eI)) x20.2.1) 3 rfl) (fun _ => (puQ puI (puT (puP puI puI)) (puT puI)) _) (fun x75 => (xa_v (x_c (eI 0)) (fun x76 => xa_nil)))) (fun _ => op_ixQ0 puI _)) (fun x77 => xa_nil)) (fun _ => rfl) (fun _ => puL)) rfl (fun _ _ h => tok__law_pick  _ _ _ h) (fun _ _ => rfl) (fun _ (zz : Int × (List Int)) => [(2, (eL eI) zz.2)]) (fun _ _ => rfl)) (.inl rfl) (fun x79 => (b_last (b_expr (x_mt rfl (xa_v (X.as (x_lst (xa_v (X.as (x_tup (xa_p (x_var (d := eI x79.2.1) 7 rfl) (fun _ => puI _) (fun x80 => (xa_v (x_c (eI 1)) (fun x81 => xa_nil)))) rfl (by decide)) (fun x82 => (eP eI eI) (x79.2.1, (1 : Int))) rfl) (fun x83 => (xa_v (X.as (x_tup (xa_p (x_var (d := eI x79.2.1) 7 rfl) (fun _ => puI _) (fun x84 => (xa_v (x_primT (xa_v (x_c (eI 1)) (fun x85 => xa_nil)) (fun _ => op_neg _)) (fun x86 => xa_nil)))) rfl (by decide)) (fun x87 => (eP eI eI) (x79.2.1, (-(1 : Int)))) rfl) (fun x88 => xa_nil)))) rfl (by decide)) (fun x89 => (eL (eP eI eI)) [(x79.2.1, (1 : Int)), (x79.2.1, (-(1 : Int)))]) rfl) (fun x90 => xa_nil)) rfl (fun _ => rfl) (fun _ _ h => mt_ext' (puP puI puI) h) (fun _ _ => rfl)) (fun x92 => (b_endC (z := (x79.2.2, x92.2)) (by repeat (first | exact wk_nil | apply wk_a | apply wk_s))))))))) (fun x70 x71 => (b_set (x_prim (xa_v (X.as (x_lst (xa_v (x_c (eI 0)) (fun x93 => xa_nil)) rfl (by decide)) (fun x94 => (eL eI) [(0 : Int)]) rfl) (fun x95 => (xa_v (x_primT (xa_p (x_var (d := (eQ eI (eT (eP eI eI)) (eT eI)) x20.2.1) 3 rfl) (fun _ => (puQ puI (puT (puP puI puI)) (puT puI)) _) (fun x96 => (xa_v (x_c (eI 0)) (fun x97 => xa_nil)))) (fun _ => op_ixQ0 puI _)) (fun x98 => xa_nil)))) (fun _ _ h => op_repL puI h)) (.inl rfl) (fun x100 => (b_for (xi_mk (xa_s 4 rfl xa_nil (fun _ => rfl) (fun _ => puL)) rfl (puP puI puI) (fun _ => it_L _)) (fun x101 (x102 : ((List Int))) => [some (eZ a0), some (eI x11), some ((eL eI) x71.1), some ((eQ eI (eT (eP eI eI)) (eT eI)) x20.2.1), none, none, some ((eL (eP eI eI)) x71.2), none, some ((eL eI) x102), none, none, none]) (fun x101 => x100.2) (fun _ => rfl) (fun x101 => by repeat (first | exact wk_nil | apply wk_a | apply wk_s)) (fun x101 x102 x103 => (as_tp (ass_cons as_nm (ass_cons as_nm ass_nil)))) (fun x101 x102 x103 => (b_last (b_setIx (e1 := eI) (x_primT (xa_v (x_prim (xa_s 8 rfl (xa_p (x_var (d := eI x103.1) 7 rfl) (fun _ => puI _) (fun x106 => xa_nil)) (fun _ => rfl) (fun _ => puL)) (fun _ _ h => op_ixL puI h)) (fun x108 => (xa_p (x_var (d := eI x103.2) 9 rfl) (fun _ => puI _) (fun x109 => xa_nil)))) (fun _ => op_add _ _)) puI (fun _ => ⟨_, rfl⟩) (fun x110 => (x_var (d := eI x103.1) 7 rfl)) (fun _ _ => .inl rfl) (fun _ _ => rfl) (fun x110 x111 x112 => (b_endC (z := x112) (by repeat (first | exact wk_nil | apply wk_a | apply wk_s))))))) (fun x101 x102 => (b_setL (eP (eT eI) (eT eI)) (X.as (x_tup (xa_v (x_callP (xa_p (x_var (d := (eQ eI (eT (eP eI eI)) (eT eI)) x20.2.1) 3 rfl) (fun _ => (puQ puI (puT (puP puI puI)) (puT puI)) _) (fun x114 => (xa_v (x_primT (xa_s 8 rfl xa_nil (fun _ => rfl) (fun _ => puL)) (fun _ => op_tupL puI _)) (fun x115 => xa_nil)))) rfl (fun _ _ h => tok_ends_of  _ _ _ h)) (fun x117 => (xa_v (x_callP (xa_p (x_var (d := (eQ eI (eT (eP eI eI)) (eT eI)) x20.2.1) 3 rfl) (fun _ => (puQ puI (puT (puP puI puI)) (puT puI)) _) (fun x118 => (xa_v (x_primT (xa_s 8 rfl xa_nil (fun _ => rfl) (fun _ => puL)) (fun _ => op_tupL puI _)) (fun x119 => xa_nil)))) rfl (fun _ _ h => tok_turns_of  _ _ _ h)) (fun x121 => xa_nil)))) rfl (by decide)) (fun x122 => (eP (eT eI) (eT eI)) (x122.1.2, x122.2.1.2)) rfl) (.inl rfl) (fun x123 x124 => (b_last (b_forR (xi_mk (xa_v (x_lstF2 (puP puI puI) rfl (xa_v (X.as (x_frzF (puP puI puI) (x_call (xa_s 2 rfl (xa_s 4 rfl xa_nil (fun _ => rfl) (fun _ => puL)) (fun _ => rfl) (fun _ => puL)) rfl (fun _ _ h => tok__law_shuffled  _ _ _ h) (fun _ _ => rfl) (fun _ (zz : (List (Int × Int)) × (List Int)) => [(2, (eL eI) zz.2), (4, (eL (eP eI eI)) x38.2)]) (fun _ _ => rfl))) (fun x127 => (eF (eP eI eI)) x127.2.1) rfl) (fun x128 => (xa_v (X.as (x_frzF (puP puI puI) (x_call (xa_s 2 rfl (xa_v (x_prim (xa_s 4 rfl (xa_s 6 rfl xa_nil (fun _ => rfl) (fun _ => puL)) (fun _ => rfl) (fun _ => puL)) (fun _ _ h => op_catL (puP puI puI) h)) (fun x130 => xa_nil)) (fun _ => rfl) (fun _ => puL)) rfl (fun _ _ h => tok__law_shuffled  _ _ _ h) (fun _ _ => rfl) (fun _ (zz : (List (Int × Int)) × (List Int)) => [(2, (eL eI) zz.2)]) (fun _ _ => rfl))) (fun x132 => (eF (eP eI eI)) x132.2.1) rfl) (fun x133 => xa_nil)))) (fun _ => rfl) rfl) (fun x134 => xa_nil)) rfl puF (fun _ => it_L _)) (fun x135 (x136 : Unit) => [some (eZ a0), some (eI x11), some ((eL eI) x135.1.2.1.2.2), some ((eQ eI (eT (eP eI eI)) (eT eI)) x20.2.1), some ((eF (eP eI eI)) x38.2), none, some ((eL (eP eI eI)) x71.2), none, some ((eL eI) x102), none, some ((eP (eT eI) (eT eI)) x124), none]) (fun x135 => ()) (fun (z : Bool) => eB z) (fun x135 x147 => [some (eZ a0), none, none, none, none, none, none, none, none, none, none, none]) Lf.ret (fun _ => rfl) (fun x135 => by repeat (first | exact wk_nil | apply wk_a | apply wk_s)) (fun x135 x136 x137 => as_nm) (fun x135 x136 x137 => (b_last (b_if (xt_tst (x_primT (xa_v (x_callP (xa_p (x_var (d := (eQ eI (eT (eP eI eI)) (eT eI)) x20.2.1) 3 rfl) (fun _ => (puQ puI (puT (puP puI puI)) (puT puI)) _) (fun x140 => (xa_p (x_var (d := (eF (eP eI eI)) x137) 11 rfl) (fun _ => puF _) (fun x141 => xa_nil)))) rfl (fun _ _ h => tok__law_come  _ _ _ h)) (fun x143 => (xa_p (x_var (d := (eP (eT eI) (eT eI)) x124) 10 rfl) (fun _ => (puP (puT puI) (puT puI)) _) (fun x144 => xa_nil)))) (fun _ => op_ne (eqP (eqT eqI) (eqT eqI)) (by decide) _ _))) (fun x145 => (b_ret (x_c (eB false)) (fun x146 => (Lf.ret false)) (.inl rfl) (fun x146 => ql_ret rfl (by repeat (first | exact wk_nil | apply wk_a | apply wk_s))))) (fun x145 => (b_skip (b_endL (z := ()) (by repeat (first | exact wk_nil | apply wk_a | apply wk_s)))))))) (fun x135 x147 => ql_ret rfl (by repeat (first | exact wk_nil | apply wk_a | apply wk_s))) (fun x135 x136 => (b_endL (z := ()) (by repeat (first | exact wk_nil | apply wk_a | apply wk_s))))))))))))))))))))))))) (fun x9 x149 => qf_ret rfl (by repeat (first | exact wk_nil | apply wk_a | apply wk_s))) (fun x9 x10 => (b_last (b_ret (x_c (eB true)) (fun x148 => true) (.inl rfl) (fun x148 => qf_ret rfl (by repeat (first | exact wk_nil | apply wk_a | apply wk_s))))))) (by dsimp only [p_law])) rfl (by simp [okM]) (fun z => (coll_0P rfl coll_nilP))
/-! digits picked of a cell's own and of numbers mixed -/
def St2 (s : List Int) : Prop := ∃ a b : Int, s = [a, b] ∧ 0 ≤ a ∧ 0 ≤ b ∧ b < 2147483647
theorem pick_w {s : List Int} {m : Int} (h : St2 s) (hm : 0 < m) (hm2 : m < 1000000) : Sp (p__law_pick s m) (fun r => 0 ≤ r.1 ∧ r.1 < m ∧ St2 r.2) := by
  obtain ⟨a, b, rfl, ha, hb, hb2⟩ := h
  unfold p__law_pick
  simp only [at0, at1, set0, set1, Option.bind_some]
  refine w_ite (fun c0 => ?_) fun c0 => ?_
  · rw [modT_of hm, Option.bind_some, divT_of hm (by omega)]
    exact w_some ⟨Int.emod_nonneg _ (by omega), Int.emod_lt_of_pos _ hm, _, _, rfl, Int.ediv_nonneg ha (by omega), hb, hb2⟩
  · rw [mulT_l (by omega) (by omega), Option.bind_some, modT_of hm]
    exact w_some ⟨Int.emod_nonneg _ (by omega), Int.emod_lt_of_pos _ hm, _, _, rfl, ha, by omega, by omega⟩
theorem tenN_pos (n : Nat) : 0 < tenN n := by
  unfold tenN
  exact Int.natCast_pos.mpr (Nat.pow_pos (by decide))
theorem cell_at_w (ns : List Int) (k : Int) (h : 0 ≤ k) : Sp (p__law_cell_at ns k) (fun _ => True) := by
  unfold p__law_cell_at
  refine w_ite (fun c => ?_) fun c => w_some trivial
  have c := of_decide_eq_true c
  rw [atI_get' h c]
  exact w_some trivial
theorem left_w (ns : List Int) (k : Int) (h0 : 0 ≤ k) (h1 : k < 1000000) : Sp (p__law_left ns k) St2 := by
  unfold p__law_left
  have hp : 0 < max (1 : Int) (ns.length : Int) := by omega
  rw [modT_of hp, Option.bind_some]
  refine w_bind (cell_at_w ns _ (Int.emod_nonneg _ (by omega))) fun cell _ => ?_
  rw [mulT_r (by omega) (by omega), Option.bind_some]
  refine w_let fun seed hs => ?_
  rw [modT_of (tenN_pos 4000), Option.bind_some]
  refine w_some ⟨_, _, rfl, Int.emod_nonneg _ (by have := tenN_pos 4000; omega), ?_, ?_⟩
  · rw [hs]; exact Int.emod_nonneg _ (by decide)
  · rw [hs]; exact Int.emod_lt_of_pos _ (by decide)
/-! nets that are drawn -/
abbrev Net := Int × List (Int × Int) × List Int
def GoodF (L : Int) (p : Int × Int) : Prop := 0 ≤ p.1 ∧ p.1 < L ∧ 0 ≤ p.2 ∧ p.2 < L ∧ p.1 ≠ p.2
structure GoodN (N : Net) : Prop where
  l1 : 1 ≤ N.1
  l16 : N.1 ≤ 16
  many : N.2.1.length ≤ 128
  forks : ∀ p ∈ N.2.1, GoodF N.1 p
  ends : N.2.2.Perm (rngI 0 N.1.toNat)
theorem GoodN.elen {N : Net} (h : GoodN N) : N.2.2.length = N.1.toNat := by rw [h.ends.length_eq, rngI_len]
theorem GoodN.eget {N : Net} (h : GoodN N) {x : Int} (hx : x ∈ N.2.2) : 0 ≤ x ∧ x < N.1 := by
  have := rngI_mem (h.ends.mem_iff.mp hx)
  have := h.l1
  omega
theorem ring_ne {L a b : Int} (hL : 2 ≤ L) (a0 : 0 ≤ a) (a1 : a < L) (b0 : 0 ≤ b) (b1 : b < L - 1) : (a + 1 + b) % L ≠ a := by
  intro z
  rcases Int.lt_or_le (a + 1 + b) L with y | y
  · rw [Int.emod_eq_of_lt (by omega) y] at z; omega
  · rw [show a + 1 + b = (a + 1 + b - L) + L * 1 by omega, Int.add_mul_emod_self_left, Int.emod_eq_of_lt (by omega) (by omega)] at z; omega
theorem next_ne {L k : Int} (hL : 2 ≤ L) : k % L ≠ (k + 1) % L := by
  intro z
  have q1 := Int.emod_nonneg k (show L ≠ 0 by omega)
  have q2 := Int.emod_lt_of_pos k (show 0 < L by omega)
  have := ring_ne (b := 0) hL q1 q2 (by omega) (by omega)
  apply this
  rw [Int.add_zero, Int.emod_add_emod]
  exact z.symm
theorem perm_pop {α : Type} (lf en : List α) (j : Nat) (hj : j < lf.length) : (lf.eraseIdx j ++ (en ++ [lf[j]])).Perm (lf ++ en) := by
  have e : lf.Perm (lf[j] :: lf.eraseIdx j) := by
    rw [List.eraseIdx_eq_take_drop_succ]
    have z : lf = lf.take j ++ lf[j] :: lf.drop (j + 1) := by
      rw [← List.drop_eq_getElem_cons hj, List.take_append_drop]
    conv => lhs; rw [z]
    exact List.perm_middle
  refine .trans ?_ (e.append_right en).symm
  rw [← List.append_assoc]
  exact (List.perm_append_comm (l₁ := lf.eraseIdx j ++ en) (l₂ := [lf[j]]))
theorem ins_perm {α : Type} (xs : List α) (k : Nat) (x : α) : (xs.take k ++ [x] ++ xs.drop k).Perm (xs ++ [x]) := by
  rw [List.append_assoc]
  have h : xs ++ [x] = (xs.take k ++ xs.drop k) ++ [x] := by rw [List.take_append_drop]
  rw [h, List.append_assoc]
  exact .append_left _ List.perm_append_comm
theorem net_w {s : List Int} (h : St2 s) {most : Int} (hm0 : 0 ≤ most) (hm1 : most ≤ 128) : Sp (p__law_net s most) (fun r => GoodN r.1 ∧ r.1.2.1.length ≤ max 12 most.toNat ∧ St2 r.2) := by
  unfold p__law_net
  refine w_bind (pick_w h (by decide) (by decide)) fun r1 ⟨a0, a1, s1⟩ => ?_
  refine w_bind (P := fun x => 1 ≤ x ∧ x ≤ 16) ((w_atI a0 (by simpa using a1)).mono fun x hx => by
    simp only [List.mem_cons, List.not_mem_nil, or_false] at hx; omega) fun L hL => ?_
  refine w_let fun f0 hf0 => ?_
  subst hf0
  refine w_bind (pick_w s1 (by decide) (by decide)) fun r2 ⟨b0, b1, s2⟩ => ?_
  refine w_bind (P := fun x => 0 ≤ x ∧ (x ≤ 12 ∨ x ≤ most)) ((w_atI b0 (by simpa using b1)).mono fun x hx => by
    simp only [List.mem_cons, List.not_mem_nil, or_false] at hx; omega) fun m0 hm => ?_
  obtain ⟨many, hmany⟩ : ∃ x, x = m0 * (if decide (1 < L) = true then 1 else 0) := ⟨_, rfl⟩
  rw [← hmany]
  have hmany : 0 ≤ many ∧ (many ≤ 12 ∨ many ≤ most) ∧ (0 < many → 2 ≤ L) := by
    rw [hmany]
    by_cases c : (1 : Int) < L
    · rw [decide_eq_true c, if_pos rfl]; omega
    · rw [decide_eq_false c, if_neg (by simp)]; omega
  rw [rngO_of (by omega), Option.bind_some]
  refine w_bind (w_lpN (fun i s => s.2.length = i ∧ (∀ p ∈ s.2, GoodF L p) ∧ St2 s.1) ⟨rfl, by simp, s2⟩ fun i s y hy hi => ?_) fun sF hF => ?_
  · obtain ⟨y1, y2⟩ := rngI_get hy
    obtain ⟨h1, h2, h3⟩ := hi
    have hL2 : 2 ≤ L := by omega
    refine w_bind (pick_w h3 (by omega) (by omega)) fun u1 ⟨c0, c1, t1⟩ => ?_
    refine w_bind (pick_w t1 (by omega) (by omega)) fun u2 ⟨d0, d1, t2⟩ => ?_
    rw [modT_of (by omega), Option.bind_some]
    refine w_let fun fork hfork => ?_
    refine w_bind (pick_w t2 (by decide) (by decide)) fun u3 ⟨e0, e1, t3⟩ => ?_
    have m0 := Int.emod_nonneg (u1.1 + 1 + u2.1) (show L ≠ 0 by omega)
    have m1 := Int.emod_lt_of_pos (u1.1 + 1 + u2.1) (show 0 < L by omega)
    have g0 : GoodF L fork := by
      rw [hfork]
      exact ⟨c0, c1, m0, m1, fun z => ring_ne hL2 c0 c1 d0 (by omega) z.symm⟩
    refine w_bind (P := GoodF L) ?_ fun q1 hq1 => ?_
    · refine w_ite (fun c => ?_) fun c => w_some g0
      rw [Bool.and_eq_true] at c
      have hne : s.2 ≠ [] := by simpa using c.1
      have hlt : u3.1 < 2 := of_decide_eq_true c.2
      rw [atI_lastne hne, Option.bind_some, Option.bind_some]
      have hg := h2 _ (List.getLast_mem hne)
      refine w_bind (w_atI e0 (by simpa using hlt)) fun q hq => w_some ?_
      simp only [List.mem_cons, List.not_mem_nil, or_false] at hq
      rcases hq with rfl | rfl
      · exact hg
      · exact ⟨hg.2.2.1, hg.2.2.2.1, hg.1, hg.2.1, fun z => hg.2.2.2.2 z.symm⟩
    rw [appT_of (by omega), Option.bind_some]
    refine w_some ⟨by simp [h1], fun p hp => ?_, t3⟩
    rcases List.mem_append.mp hp with z | z
    · exact h2 p z
    · rw [List.mem_singleton.mp z]; exact hq1
  obtain ⟨f1, f2, f3⟩ := hF
  rw [rngI_len] at f1
  rw [Option.bind_some, rngO_of (by omega), Option.bind_some]
  refine w_bind (w_lpN (fun i s => s.2.length = i ∧ s.2.Perm (rngI 0 i) ∧ St2 s.1) ⟨rfl, .refl _, f3⟩ fun i s y hy hi => ?_) fun sE hE => ?_
  · obtain ⟨y1, y2⟩ := rngI_get hy
    obtain ⟨h1, h2, h3⟩ := hi
    refine w_bind (pick_w h3 (by omega) (by omega)) fun u1 ⟨c0, c1, t1⟩ => ?_
    rw [insT_of (by omega) c0 (by omega), Option.bind_some]
    refine w_some ⟨by simp; omega, ?_, t1⟩
    refine (ins_perm _ _ _).trans ?_
    rw [rngI_snoc, y1]
    exact h2.append_right _
  obtain ⟨e1, e2, e3⟩ := hE
  rw [rngI_len] at e1 e2
  rw [Option.bind_some]
  refine w_bind (pick_w e3 (by decide) (by decide)) fun u ⟨u0, u1, us⟩ => ?_
  refine w_bind (P := fun en => List.Perm en (rngI 0 L.toNat)) ((w_atI u0 (by simpa using u1)).mono fun x hx => by
    simp only [List.mem_cons, List.not_mem_nil, or_false] at hx
    rcases hx with rfl | rfl
    · exact e2
    · exact .refl _) fun en hen => ?_
  exact w_some ⟨⟨by show 1 ≤ L; omega, by show L ≤ 16; omega, by show sF.2.length ≤ 128; omega, f2, hen⟩, by show sF.2.length ≤ _; omega, us⟩
/-! what comes of counts -/
def manyL (c : List Int) (p : Int × Int) : Int := c.getD p.1.toNat 0 + c.getD p.2.toNat 0
def hafL (c : List Int) (p : Int × Int) : List Int := (c.set p.1.toNat ((manyL c p + 1) / 2)).set p.2.toNat (manyL c p / 2)
def lanesL : List Int → List (Int × Int) → List Int
  | c, [] => c
  | c, p :: fs => lanesL (hafL c p) fs
def totalsL : List Int → List (Int × Int) → List Int
  | _, [] => []
  | c, p :: fs => manyL c p :: totalsL (hafL c p) fs
theorem haf_len (c : List Int) (p : Int × Int) : (hafL c p).length = c.length := by unfold hafL; simp
theorem lanesL_len : ∀ (fs : List (Int × Int)) (c : List Int), (lanesL c fs).length = c.length
  | [], _ => rfl
  | p :: fs, c => by rw [lanesL, lanesL_len fs, haf_len]
theorem totalsL_len : ∀ (fs : List (Int × Int)) (c : List Int), (totalsL c fs).length = fs.length
  | [], _ => rfl
  | p :: fs, c => by rw [totalsL, List.length_cons, List.length_cons, totalsL_len fs]
theorem GoodN.lens {N : Net} (h : GoodN N) {c : List Int} (hc : (c.length : Int) = N.1) : ∀ p ∈ N.2.1, GoodF c.length p := fun p hp => by rw [hc]; exact h.forks p hp
theorem totals_eq {N : Net} {c : List Int} (hg : ∀ p ∈ N.2.1, GoodF c.length p) (hm : N.2.1.length ≤ 100000) : p_fork_totals N c = some (totalsL c N.2.1, lanesL c N.2.1) := by
  unfold p_fork_totals
  rw [Option.bind_some]
  have key : ∀ (fs : List (Int × Int)) (c fo : List Int), (∀ p ∈ fs, GoodF c.length p) → fo.length + fs.length ≤ 100000 →
      lpN (fun (s13 : ((List Int) × (List Int))) (y14 : (Int × Int)) => ((atI s13.1 y14.1)).bind fun t18 => ((atI s13.1 y14.2)).bind fun t21 => (some (t18 + t21)).bind fun many => ((appT s13.2 many)).bind fun totals => ((setT s13.1 y14.1 ((many + (1 : Int)) / (2 : Int)))).bind fun lanes => ((setT lanes y14.2 (many / (2 : Int)))).bind fun lanes => some (lanes, totals)) fs (c, fo) = some (lanesL c fs, fo ++ totalsL c fs) := by
    intro fs
    induction fs with
    | nil => intro c fo _ _; simp [lpN, lanesL, totalsL]
    | cons p fs ih =>
      intro c fo hg hl
      rw [List.length_cons] at hl
      obtain ⟨g1, g2, g3, g4, _⟩ := hg p (List.mem_cons_self ..)
      have ih := ih (hafL c p) (fo ++ [manyL c p]) (fun q hq => by rw [haf_len]; exact hg q (List.mem_cons_of_mem _ hq)) (by simp; omega)
      rw [lpN]
      simp only []
      rw [atI_D 0 g1 g2, Option.bind_some, atI_D 0 g3 g4, Option.bind_some, Option.bind_some, appT_of (by omega), Option.bind_some, setT_nn g1 g2, Option.bind_some, setT_nn g3 (by rw [List.length_set]; exact g4), Option.bind_some, Option.bind_some]
      refine Eq.trans ?_ (ih.trans ?_)
      · rfl
      · simp [lanesL, totalsL]
  rw [key N.2.1 c [] hg (by simpa using hm), Option.bind_some]
  rfl
def endsL (N : Net) (c : List Int) : List Int := N.2.2.map fun e => (lanesL c N.2.1).getD e.toNat 0
def turnsL (N : Net) (c : List Int) : List Int := (totalsL c N.2.1).map fun m => m % 2
theorem ends_eq {N : Net} {c : List Int} (h : GoodN N) (hc : (c.length : Int) = N.1) : p_ends_of N c = some (endsL N c) := by
  unfold p_ends_of
  have h16 := h.l16
  have hm := h.many
  have el := h.elen
  rw [totals_eq (h.lens hc) (by omega), Option.bind_some, lim_of (by omega), mapO_eq (g := fun e : Int => (lanesL c N.2.1).getD e.toNat 0) fun e he => ?_, Option.bind_some]
  · rfl
  · obtain ⟨e0, e1⟩ := h.eget he
    rw [atI_D 0 e0 (by rw [lanesL_len]; omega)]; rfl
theorem turns_eq {N : Net} {c : List Int} (h : GoodN N) (hc : (c.length : Int) = N.1) : p_turns_of N c = some (turnsL N c) := by
  unfold p_turns_of
  have hm := h.many
  rw [totals_eq (h.lens hc) (by omega), Option.bind_some, lim_of (by rw [totalsL_len]; omega)]
  rfl
theorem endsL_len {N : Net} {c : List Int} : (endsL N c).length = N.2.2.length := by unfold endsL; simp
theorem turnsL_len {N : Net} {c : List Int} : (turnsL N c).length = N.2.1.length := by unfold turnsL; rw [List.length_map, totalsL_len]
theorem sum_set : ∀ (xs : List Int) (i : Nat) (v : Int), i < xs.length → (xs.set i v).sum = xs.sum - xs.getD i 0 + v
  | [], i, v, h => by simp at h
  | x :: xs, 0, v, _ => by simp; omega
  | x :: xs, i + 1, v, h => by
    have := sum_set xs i v (by simpa using h)
    rw [List.set_cons_succ, List.sum_cons, List.sum_cons, this, List.getD_cons_succ]; omega
theorem haf_sum {c : List Int} {p : Int × Int} (h : GoodF c.length p) : (hafL c p).sum = c.sum := by
  obtain ⟨g1, g2, g3, g4, g5⟩ := h
  unfold hafL
  rw [sum_set _ _ _ (by rw [List.length_set]; omega), sum_set _ _ _ (by omega)]
  have : (c.set p.1.toNat ((manyL c p + 1) / 2)).getD p.2.toNat 0 = c.getD p.2.toNat 0 := by
    rw [List.getD_eq_getElem?_getD, List.getElem?_set, if_neg (by omega), List.getD_eq_getElem?_getD]
  rw [this]
  have e : manyL c p = c.getD p.1.toNat 0 + c.getD p.2.toNat 0 := rfl
  omega
theorem lanesL_sum : ∀ (fs : List (Int × Int)) (c : List Int), (∀ p ∈ fs, GoodF c.length p) → (lanesL c fs).sum = c.sum
  | [], _, _ => rfl
  | p :: fs, c, h => by
    rw [lanesL, lanesL_sum fs _ fun q hq => by rw [haf_len]; exact h q (List.mem_cons_of_mem _ hq), haf_sum (h p (List.mem_cons_self ..))]
theorem map_range_get (xs : List Int) : (rngI 0 xs.length).map (fun e => xs.getD e.toNat 0) = xs := by
  unfold rngI
  rw [List.map_map]
  refine List.ext_getElem (by simp) fun i h1 h2 => ?_
  rw [List.getElem_map, List.getElem_range]
  simp only [Function.comp]
  rw [show ((0 : Int) + (i : Nat)).toNat = i by omega, List.getD_eq_getElem?_getD, List.getElem?_eq_getElem h2]; rfl
theorem perm_sum : ∀ {a b : List Int}, a.Perm b → a.sum = b.sum := fun h => by
  induction h with
  | nil => rfl
  | cons x _ ih => rw [List.sum_cons, List.sum_cons, ih]
  | swap x y l => simp only [List.sum_cons]; omega
  | trans _ _ a b => exact a.trans b
theorem ends_sum {N : Net} {c : List Int} (h : GoodN N) (hc : (c.length : Int) = N.1) : (endsL N c).sum = c.sum := by
  have h1 := perm_sum (h.ends.map fun e => (lanesL c N.2.1).getD e.toNat 0)
  have h2 : N.1.toNat = (lanesL c N.2.1).length := by rw [lanesL_len]; omega
  unfold endsL
  rw [h1, h2, map_range_get, lanesL_sum _ _ (h.lens hc)]
/-! balls one by one -/
def addL (c : List Int) (a : Nat) (d : Int) : List Int := c.set a (c.getD a 0 + d)
theorem addL_len (c : List Int) (a : Nat) (d : Int) : (addL c a d).length = c.length := by unfold addL; simp
theorem get_set' (c : List Int) (i j : Nat) (v : Int) (h : i < c.length) : (c.set i v).getD j 0 = if i = j then v else c.getD j 0 := by
  rw [List.getD_eq_getElem?_getD, List.getElem?_set, List.getD_eq_getElem?_getD]
  by_cases e : i = j
  · rw [if_pos e, if_pos h, if_pos e]; rfl
  · rw [if_neg e, if_neg e]
theorem ext_D {a b : List Int} (hl : a.length = b.length) (h : ∀ i, i < a.length → a.getD i 0 = b.getD i 0) : a = b := by
  refine List.ext_getElem hl fun i h1 h2 => ?_
  have := h i h1
  rw [List.getD_eq_getElem?_getD, List.getElem?_eq_getElem h1, List.getD_eq_getElem?_getD, List.getElem?_eq_getElem h2] at this
  exact this
theorem add_get {c : List Int} {a : Nat} (d : Int) (h : a < c.length) (i : Nat) : (addL c a d).getD i 0 = if a = i then c.getD a 0 + d else c.getD i 0 := get_set' _ _ _ _ h
theorem haf_get {c : List Int} {p : Int × Int} (h : GoodF c.length p) (i : Nat) : (hafL c p).getD i 0 = if p.2.toNat = i then manyL c p / 2 else if p.1.toNat = i then (manyL c p + 1) / 2 else c.getD i 0 := by
  obtain ⟨g1, g2, g3, g4, g5⟩ := h
  unfold hafL
  rw [get_set' _ _ _ _ (by rw [List.length_set]; omega), get_set' _ _ _ _ (by omega)]
def onF' (a : Int) (p : Int × Int) : Bool := decide (p.1 = a) || decide (p.2 = a)
def nxtL (d t : Int) (p : Int × Int) : Int := if (d = 1) = (t = 0) then p.1 else p.2
theorem nx_p0 (p : Int × Int) : nxtL 1 0 p = p.1 := by simp [nxtL]
theorem nx_p1 (p : Int × Int) : nxtL 1 1 p = p.2 := by simp [nxtL]
theorem nx_m0 (p : Int × Int) : nxtL (-1) 0 p = p.2 := by simp [nxtL]
theorem nx_m1 (p : Int × Int) : nxtL (-1) 1 p = p.1 := by simp [nxtL]
theorem haf_off {c : List Int} {p : Int × Int} (h : GoodF c.length p) {a : Nat} (ha : a < c.length) (d : Int) (ho : onF' a p = false) : hafL (addL c a d) p = addL (hafL c p) a d ∧ manyL (addL c a d) p = manyL c p := by
  obtain ⟨g1, g2, g3, g4, g5⟩ := id h
  unfold onF' at ho
  rw [Bool.or_eq_false_iff] at ho
  have o1 := of_decide_eq_false ho.1
  have o2 := of_decide_eq_false ho.2
  have e : manyL (addL c a d) p = manyL c p := by
    unfold manyL
    rw [add_get d ha, add_get d ha, if_neg (by omega), if_neg (by omega)]
  refine ⟨ext_D (by rw [haf_len, addL_len, addL_len, haf_len]) fun i _ => ?_, e⟩
  rw [haf_get (by rw [addL_len]; exact h), e, add_get (c := c) d ha, add_get (c := hafL c p) d (show a < (hafL c p).length by rw [haf_len]; exact ha) i, haf_get h, haf_get h]
  rw [if_neg (by omega : ¬ p.2.toNat = a), if_neg (by omega : ¬ p.1.toNat = a)]
  by_cases c1 : a = i
  · subst c1
    rw [if_neg (by omega), if_neg (by omega), if_pos rfl, if_pos rfl]
  · rw [if_neg c1, if_neg c1]
theorem haf_on {c : List Int} {p : Int × Int} (h : GoodF c.length p) {a : Nat} (ha : a < c.length) {d : Int} (hd : d = 1 ∨ d = -1) (ho : onF' a p = true) :
    hafL (addL c a d) p = addL (hafL c p) (nxtL d (manyL c p % 2) p).toNat d ∧ manyL (addL c a d) p = manyL c p + d := by
  obtain ⟨g1, g2, g3, g4, g5⟩ := id h
  unfold onF' at ho
  rw [Bool.or_eq_true] at ho
  have e : manyL (addL c a d) p = manyL c p + d := by
    unfold manyL
    rw [add_get d ha, add_get d ha]
    rcases ho with ho | ho
    · have ho := of_decide_eq_true ho
      rw [if_pos (by omega), if_neg (by omega), show a = p.1.toNat by omega]; omega
    · have ho := of_decide_eq_true ho
      rw [if_neg (by omega), if_pos (by omega), show a = p.2.toNat by omega]; omega
  have hn : (nxtL d (manyL c p % 2) p).toNat < c.length := by unfold nxtL; split <;> omega
  refine ⟨ext_D (by rw [haf_len, addL_len, addL_len, haf_len]) fun i _ => ?_, e⟩
  rw [haf_get (by rw [addL_len]; exact h), e, add_get (c := c) d ha, add_get (c := hafL c p) d (show (nxtL d (manyL c p % 2) p).toNat < (hafL c p).length by rw [haf_len]; exact hn) i, haf_get h, haf_get h]
  have hm : manyL c p % 2 = 0 ∨ manyL c p % 2 = 1 := by omega
  have ho' : p.1 = a ∨ p.2 = a := ho.imp of_decide_eq_true of_decide_eq_true
  rcases hd with rfl | rfl <;> rcases hm with hm | hm
  · rw [hm, nx_p0]; (repeat' split) <;> omega
  · rw [hm, nx_p1]; (repeat' split) <;> omega
  · rw [hm, nx_m0]; (repeat' split) <;> omega
  · rw [hm, nx_m1]; (repeat' split) <;> omega
/-- a ball's way: its last lane, the turns behind it -/
def walkL (d : Int) : List (Int × Int) → List Int → Int → Int × List Int
  | p :: fs, t :: ts, a => if onF' a p = true then ((walkL d fs ts (nxtL d t p)).1, (1 - t) :: (walkL d fs ts (nxtL d t p)).2) else ((walkL d fs ts a).1, t :: (walkL d fs ts a).2)
  | _, ts, a => (a, ts)
def modsL (c : List Int) (fs : List (Int × Int)) : List Int := (totalsL c fs).map fun m => m % 2
theorem walk_ok {d : Int} (hd : d = 1 ∨ d = -1) : ∀ (fs : List (Int × Int)) (c : List Int) (a : Int), (∀ p ∈ fs, GoodF c.length p) → 0 ≤ a → a < c.length →
    0 ≤ (walkL d fs (modsL c fs) a).1 ∧ (walkL d fs (modsL c fs) a).1 < c.length ∧ lanesL (addL c a.toNat d) fs = addL (lanesL c fs) (walkL d fs (modsL c fs) a).1.toNat d ∧ modsL (addL c a.toNat d) fs = (walkL d fs (modsL c fs) a).2
  | [], c, a, _, h0, h1 => ⟨h0, h1, rfl, rfl⟩
  | p :: fs, c, a, hg, h0, h1 => by
    have g := hg p (List.mem_cons_self ..)
    have hg' : ∀ q ∈ fs, GoodF (hafL c p).length q := fun q hq => by rw [haf_len]; exact hg q (List.mem_cons_of_mem _ hq)
    have em : modsL c (p :: fs) = manyL c p % 2 :: modsL (hafL c p) fs := rfl
    rw [em, walkL]
    by_cases ho : onF' a p = true
    · rw [if_pos ho]
      have ho' : onF' (a.toNat : Nat) p = true := by rw [show ((a.toNat : Nat) : Int) = a by omega]; exact ho
      obtain ⟨e1, e2⟩ := haf_on g (by omega) hd ho'
      have n0 : 0 ≤ nxtL d (manyL c p % 2) p := by unfold nxtL; have := g.1; have := g.2.2.1; split <;> omega
      have n1 : nxtL d (manyL c p % 2) p < c.length := by unfold nxtL; have := g.2.1; have := g.2.2.2.1; split <;> omega
      obtain ⟨i1, i2, i3, i4⟩ := walk_ok hd fs (hafL c p) (nxtL d (manyL c p % 2) p) hg' n0 (by rw [haf_len]; exact n1)
      rw [haf_len] at i2
      refine ⟨i1, i2, ?_, ?_⟩
      · rw [lanesL, e1, i3]; rfl
      · show manyL (addL c a.toNat d) p % 2 :: modsL (hafL (addL c a.toNat d) p) fs = _
        rw [e1, e2, i4]
        congr 1
        rcases hd with rfl | rfl <;> omega
    · have ho : onF' a p = false := by simpa using ho
      rw [if_neg (by simp [ho])]
      have ho' : onF' (a.toNat : Nat) p = false := by rw [show ((a.toNat : Nat) : Int) = a by omega]; exact ho
      obtain ⟨e1, e2⟩ := haf_off g (by omega) d ho'
      obtain ⟨i1, i2, i3, i4⟩ := walk_ok hd fs (hafL c p) a hg' h0 (by rw [haf_len]; exact h1)
      rw [haf_len] at i2
      refine ⟨i1, i2, ?_, ?_⟩
      · rw [lanesL, e1, i3]; rfl
      · show manyL (addL c a.toNat d) p % 2 :: modsL (hafL (addL c a.toNat d) p) fs = _
        rw [e1, e2, i4]
/-! a ball's end -/
theorem idx_ex (b : Int) : ∀ {xs : List Int}, b ∈ xs → ∃ e : Nat, xs.findIdx? (fun z => decide (z = b)) = some e ∧ xs[e]? = some b
  | [], h => by cases h
  | x :: xs, h => by
    rw [List.findIdx?_cons]
    by_cases c : x = b
    · exact ⟨0, by simp [c], by simp [c]⟩
    · obtain ⟨e, e1, e2⟩ := idx_ex b (xs := xs) (by
        rcases List.mem_cons.mp h with z | z
        · exact absurd z.symm c
        · exact z)
      exact ⟨e + 1, by simp [c, e1], by simpa using e2⟩
theorem GoodN.nodup {N : Net} (h : GoodN N) : N.2.2.Nodup := h.ends.nodup_iff.mpr (by
  unfold rngI
  exact List.Pairwise.map _ (fun a b (z : a ≠ b) => by omega) List.nodup_range)
theorem end_of {N : Net} (h : GoodN N) {b : Int} (b0 : 0 ≤ b) (b1 : b < N.1) : ∃ e : Nat, idxT N.2.2 b = some (e : Int) ∧ e < N.2.2.length ∧ N.2.2[e]? = some b := by
  have hm : b ∈ N.2.2 := h.ends.mem_iff.mpr (by
    unfold rngI
    exact List.mem_map.mpr ⟨b.toNat, List.mem_range.mpr (by omega), by omega⟩)
  obtain ⟨e, e1, e2⟩ := idx_ex b hm
  refine ⟨e, ?_, (List.getElem?_eq_some_iff.mp e2).1, e2⟩
  unfold idxT
  rw [e1]; rfl
theorem ends_add {N : Net} (h : GoodN N) {c : List Int} (hc : (c.length : Int) = N.1) {a : Int} (a0 : 0 ≤ a) (a1 : a < N.1) {d : Int} (hd : d = 1 ∨ d = -1) :
    ∃ e : Nat, idxT N.2.2 (walkL d N.2.1 (turnsL N c) a).1 = some (e : Int) ∧ e < N.2.2.length ∧ turnsL N (addL c a.toNat d) = (walkL d N.2.1 (turnsL N c) a).2 ∧ endsL N (addL c a.toNat d) = addL (endsL N c) e d := by
  obtain ⟨w0, w1, w2, w3⟩ := walk_ok hd N.2.1 c a (h.lens hc) a0 (by omega)
  have w0 : 0 ≤ (walkL d N.2.1 (turnsL N c) a).1 := w0
  have w1 : (walkL d N.2.1 (turnsL N c) a).1 < c.length := w1
  obtain ⟨e, e1, e2, e3⟩ := end_of h w0 (by omega)
  refine ⟨e, e1, e2, w3, ?_⟩
  have w2 : lanesL (addL c a.toNat d) N.2.1 = addL (lanesL c N.2.1) (walkL d N.2.1 (turnsL N c) a).1.toNat d := w2
  refine ext_D (by rw [endsL_len, addL_len, endsL_len]) fun i hi => ?_
  rw [endsL_len] at hi
  have ge : ∀ c : List Int, (endsL N c).getD i 0 = (lanesL c N.2.1).getD (N.2.2[i]).toNat 0 := fun c => by
    unfold endsL
    rw [List.getD_eq_getElem?_getD, List.getElem?_map, List.getElem?_eq_getElem hi]; rfl
  have gb : N.2.2[i] ∈ N.2.2 := List.getElem_mem hi
  have gr := h.eget gb
  rw [ge, w2, add_get d (by rw [lanesL_len]; omega), add_get d (by rw [endsL_len]; exact e2), ge c]
  by_cases c1 : e = i
  · subst c1
    have : N.2.2[e] = (walkL d N.2.1 (turnsL N c) a).1 := by
      rw [List.getElem?_eq_getElem e2] at e3
      exact Option.some.inj e3
    rw [if_pos (by rw [this]), if_pos rfl, ge c, this]
  · have : ¬ (walkL d N.2.1 (turnsL N c) a).1.toNat = (N.2.2[i]).toNat := fun z => c1 (by
      rw [List.getElem?_eq_getElem e2] at e3
      have e3 := Option.some.inj e3
      exact (List.getElem_inj h.nodup).mp (by omega))
    rw [if_neg this, if_neg c1]
/-! the program's walks -/
theorem mods_01 (c : List Int) (fs : List (Int × Int)) : ∀ t ∈ modsL c fs, t = 0 ∨ t = 1 := fun t ht => by
  obtain ⟨m, _, rfl⟩ := List.mem_map.mp ht
  omega
theorem at_mid (l : List Int) (t : Int) (r : List Int) : atI (l ++ t :: r) (l.length : Int) = some t := atI_nat (by rw [List.getElem?_append_right (Nat.le_refl _), Nat.sub_self]; rfl)
theorem set_mid (l : List Int) (t v : Int) (r : List Int) : setT (l ++ t :: r) (l.length : Int) v = some (l ++ v :: r) := by
  rw [setT_nn (by omega) (by simp; omega), Int.toNat_natCast]
  congr 1
  rw [List.set_append_right _ _ (Nat.le_refl _), Nat.sub_self]; rfl
theorem atP0 (p : Int × Int) : atP p 0 = some p.1 := at0 _ _
theorem atP1 (p : Int × Int) : atP p 1 = some p.2 := at1 _ _ _
theorem passed_eq {N : Net} {ts : List Int} (hl : ts.length = N.2.1.length) (h01 : ∀ t ∈ ts, t = 0 ∨ t = 1) (a : Int) : p_passed N ts a = (idxT N.2.2 (walkL 1 N.2.1 ts a).1).bind fun e => some ((walkL 1 N.2.1 ts a).2, e) := by
  unfold p_passed
  have key : ∀ (fs : List (Int × Int)) (done ts : List Int) (a : Int), ts.length = fs.length → (∀ t ∈ ts, t = 0 ∨ t = 1) →
      lpN (fun (s9 : (Int × (List Int))) (y10 : (Int × (Int × Int))) => if ((decide (y10.2.1 = s9.1) || decide (y10.2.2 = s9.1))) = true then ((atI s9.2 y10.1)).bind fun t18 => ((atP y10.2 t18)).bind fun lane => ((atI s9.2 y10.1)).bind fun t24 => ((setT s9.2 y10.1 ((1 : Int) - t24))).bind fun later => some (lane, later) else some (s9.1, s9.2)) (enumT done.length fs) (a, done ++ ts) = some ((walkL 1 fs ts a).1, done ++ (walkL 1 fs ts a).2) := by
    intro fs
    induction fs with
    | nil => intro done ts a hl _; cases ts with
      | nil => rfl
      | cons _ _ => simp at hl
    | cons p fs ih =>
      intro done ts a hl h01
      cases ts with
      | nil => simp at hl
      | cons t ts =>
        have ht := h01 t (List.mem_cons_self ..)
        have h01' : ∀ t ∈ ts, t = 0 ∨ t = 1 := fun t h => h01 t (List.mem_cons_of_mem _ h)
        have hl' : ts.length = fs.length := by simpa using hl
        rw [enumT, lpN, walkL]
        simp only []
        by_cases ho : onF' a p = true
        · rw [if_pos ho, if_pos (by exact ho), at_mid, Option.bind_some]
          have hn : atP p t = some (nxtL 1 t p) := by
            rcases ht with rfl | rfl
            · rw [atP0, nx_p0]
            · rw [atP1, nx_p1]
          rw [hn, Option.bind_some, Option.bind_some, set_mid, Option.bind_some, Option.bind_some]
          have := ih (done ++ [1 - t]) ts (nxtL 1 t p) hl' h01'
          rw [List.length_append, List.length_singleton] at this
          simpa using this
        · rw [if_neg ho, if_neg (by exact ho), Option.bind_some]
          have := ih (done ++ [t]) ts a hl' h01'
          rw [List.length_append, List.length_singleton] at this
          simpa using this
  have := key N.2.1 [] ts a hl h01
  rw [List.nil_append, List.nil_append] at this
  rw [show enumT 0 N.2.1 = enumT ([] : List Int).length N.2.1 from rfl, this, Option.bind_some]
theorem turns_01 (N : Net) (c : List Int) : ∀ t ∈ turnsL N c, t = 0 ∨ t = 1 := mods_01 c N.2.1
theorem passed_one {N : Net} (h : GoodN N) {c : List Int} (hc : (c.length : Int) = N.1) {a : Int} (a0 : 0 ≤ a) (a1 : a < N.1) :
    ∃ e : Nat, p_passed N (turnsL N c) a = some (turnsL N (addL c a.toNat 1), (e : Int)) ∧ e < N.2.2.length ∧ endsL N (addL c a.toNat 1) = addL (endsL N c) e 1 := by
  obtain ⟨e, e1, e2, e3, e4⟩ := ends_add h hc a0 a1 (.inl rfl)
  exact ⟨e, by rw [passed_eq turnsL_len (turns_01 N c), e1, e3]; rfl, e2, e4⟩
theorem haf_zero {n : Nat} {p : Int × Int} (h : GoodF n p) : hafL (List.replicate n 0) p = List.replicate n 0 := by
  have h' : GoodF (List.replicate n (0 : Int)).length p := by rw [List.length_replicate]; exact h
  have gz : ∀ i, (List.replicate n (0 : Int)).getD i 0 = 0 := fun i => by
    rw [List.getD_eq_getElem?_getD, List.getElem?_replicate]; split <;> rfl
  refine ext_D (haf_len _ _) fun i _ => ?_
  rw [haf_get h', gz]
  have : manyL (List.replicate n 0) p = 0 := by unfold manyL; rw [gz, gz]; rfl
  rw [this]
  split
  · rfl
  · split <;> rfl
theorem lanes_zero {n : Nat} : ∀ (fs : List (Int × Int)), (∀ p ∈ fs, GoodF n p) → lanesL (List.replicate n 0) fs = List.replicate n 0 ∧ totalsL (List.replicate n 0) fs = List.replicate fs.length 0
  | [], _ => ⟨rfl, rfl⟩
  | p :: fs, h => by
    obtain ⟨i1, i2⟩ := lanes_zero fs fun q hq => h q (List.mem_cons_of_mem _ hq)
    have e := haf_zero (h p (List.mem_cons_self ..))
    have gz : ∀ i, (List.replicate n (0 : Int)).getD i 0 = 0 := fun i => by
      rw [List.getD_eq_getElem?_getD, List.getElem?_replicate]; split <;> rfl
    have em : manyL (List.replicate n 0) p = 0 := by unfold manyL; rw [gz, gz]; rfl
    exact ⟨by rw [lanesL, e, i1], by rw [totalsL, e, i2, em]; rfl⟩
theorem zero_ok {N : Net} (h : GoodN N) : turnsL N (List.replicate N.1.toNat 0) = List.replicate N.2.1.length 0 ∧ endsL N (List.replicate N.1.toNat 0) = List.replicate N.1.toNat 0 := by
  have l1 := h.l1
  obtain ⟨i1, i2⟩ := lanes_zero (n := N.1.toNat) N.2.1 fun p hp => by rw [show ((N.1.toNat : Nat) : Int) = N.1 by omega]; exact h.forks p hp
  refine ⟨by unfold turnsL; rw [i2]; simp, ?_⟩
  have el := h.elen
  refine ext_D (by rw [endsL_len, List.length_replicate, el]) fun i hi => ?_
  unfold endsL
  rw [i1]
  rw [List.getD_eq_getElem?_getD, List.getElem?_map, List.getD_eq_getElem?_getD, List.getElem?_replicate]
  cases N.2.2[i]? with
  | none => split <;> rfl
  | some x =>
    simp only [Option.map_some, Option.getD_some]
    rw [List.getD_eq_getElem?_getD, List.getElem?_replicate]
    split <;> split <;> rfl
theorem back_eq {N : Net} {ts : List Int} (hl : ts.length = N.2.1.length) (h01 : ∀ t ∈ ts, t = 0 ∨ t = 1) (a : Int) : p_passed_back N ts a = (idxT N.2.2 (walkL (-1) N.2.1 ts a).1).bind fun e => some ((walkL (-1) N.2.1 ts a).2, e) := by
  unfold p_passed_back
  have key : ∀ (fs : List (Int × Int)) (done ts : List Int) (a : Int), ts.length = fs.length → (∀ t ∈ ts, t = 0 ∨ t = 1) →
      lpN (fun (s9 : (Int × (List Int))) (y10 : (Int × (Int × Int))) => if ((decide (y10.2.1 = s9.1) || decide (y10.2.2 = s9.1))) = true then ((atI s9.2 y10.1)).bind fun t18 => ((setT s9.2 y10.1 ((1 : Int) - t18))).bind fun later => ((atI later y10.1)).bind fun t26 => ((atP y10.2 t26)).bind fun lane => some (lane, later) else some (s9.1, s9.2)) (enumT done.length fs) (a, done ++ ts) = some ((walkL (-1) fs ts a).1, done ++ (walkL (-1) fs ts a).2) := by
    intro fs
    induction fs with
    | nil => intro done ts a hl _; cases ts with
      | nil => rfl
      | cons _ _ => simp at hl
    | cons p fs ih =>
      intro done ts a hl h01
      cases ts with
      | nil => simp at hl
      | cons t ts =>
        have ht := h01 t (List.mem_cons_self ..)
        have h01' : ∀ t ∈ ts, t = 0 ∨ t = 1 := fun t h => h01 t (List.mem_cons_of_mem _ h)
        have hl' : ts.length = fs.length := by simpa using hl
        rw [enumT, lpN, walkL]
        simp only []
        by_cases ho : onF' a p = true
        · rw [if_pos ho, if_pos (by exact ho), at_mid, Option.bind_some, set_mid, Option.bind_some, at_mid, Option.bind_some]
          have hn : atP p (1 - t) = some (nxtL (-1) t p) := by
            rcases ht with rfl | rfl
            · rw [show (1 : Int) - 0 = 1 by decide, atP1, nx_m0]
            · rw [show (1 : Int) - 1 = 0 by decide, atP0, nx_m1]
          rw [hn, Option.bind_some, Option.bind_some]
          have := ih (done ++ [1 - t]) ts (nxtL (-1) t p) hl' h01'
          rw [List.length_append, List.length_singleton] at this
          simpa using this
        · rw [if_neg ho, if_neg (by exact ho), Option.bind_some]
          have := ih (done ++ [t]) ts a hl' h01'
          rw [List.length_append, List.length_singleton] at this
          simpa using this
  have := key N.2.1 [] ts a hl h01
  rw [List.nil_append, List.nil_append] at this
  rw [show enumT 0 N.2.1 = enumT ([] : List Int).length N.2.1 from rfl, this, Option.bind_some]
theorem back_one {N : Net} (h : GoodN N) {c : List Int} (hc : (c.length : Int) = N.1) {a : Int} (a0 : 0 ≤ a) (a1 : a < N.1) :
    ∃ e : Nat, p_passed_back N (turnsL N c) a = some (turnsL N (addL c a.toNat (-1)), (e : Int)) ∧ e < N.2.2.length ∧ endsL N (addL c a.toNat (-1)) = addL (endsL N c) e (-1) := by
  obtain ⟨e, e1, e2, e3, e4⟩ := ends_add h hc a0 a1 (.inr rfl)
  exact ⟨e, by rw [back_eq turnsL_len (turns_01 N c), e1, e3]; rfl, e2, e4⟩
/-! balls in any order -/
abbrev Ball := Int × Int
def BallOk (N : Net) (b : Ball) : Prop := 0 ≤ b.1 ∧ b.1 < N.1 ∧ (b.2 = 1 ∨ b.2 = -1)
def putB (c : List Int) (b : Ball) : List Int := addL c b.1.toNat b.2
def cntL (N : Net) (bs : List Ball) : List Int := bs.foldl putB (List.replicate N.1.toNat 0)
theorem foldB_len : ∀ (bs : List Ball) (c : List Int), (bs.foldl putB c).length = c.length
  | [], _ => rfl
  | b :: bs, c => by rw [List.foldl_cons, foldB_len bs, putB, addL_len]
theorem cnt_len {N : Net} (h : GoodN N) (bs : List Ball) : ((cntL N bs).length : Int) = N.1 := by
  have := h.l1
  unfold cntL
  rw [foldB_len, List.length_replicate]
  omega
theorem put_swap {c : List Int} {a b : Ball} (ha : a.1.toNat < c.length) (hb : b.1.toNat < c.length) : putB (putB c a) b = putB (putB c b) a := by
  have l1 : (addL c a.1.toNat a.2).length = c.length := addL_len _ _ _
  have l2 : (addL c b.1.toNat b.2).length = c.length := addL_len _ _ _
  refine ext_D (by unfold putB; rw [addL_len, addL_len, addL_len, addL_len]) fun i _ => ?_
  unfold putB
  rw [add_get (c := addL c a.1.toNat a.2) b.2 (by rw [l1]; exact hb), add_get (c := addL c b.1.toNat b.2) a.2 (by rw [l2]; exact ha), add_get (c := c) a.2 ha, add_get (c := c) a.2 ha, add_get (c := c) b.2 hb, add_get (c := c) b.2 hb]
  by_cases e : a.1.toNat = b.1.toNat
  · rw [e]
    by_cases f : b.1.toNat = i
    · simp [f]; omega
    · simp [f]
  · by_cases f : b.1.toNat = i
    · have g : ¬ a.1.toNat = i := fun z => e (z.trans f.symm)
      simp [f, g, e]
    · by_cases g : a.1.toNat = i
      · have e' : ¬ b.1.toNat = a.1.toNat := fun z => e z.symm
        simp [f, g, e']
      · simp [f, g]
theorem fold_perm {n : Nat} {bs bs' : List Ball} (p : bs.Perm bs') : (∀ b ∈ bs, b.1.toNat < n) → ∀ c : List Int, c.length = n → bs.foldl putB c = bs'.foldl putB c := by
  induction p with
  | nil => intro _ c _; rfl
  | cons x _ ih =>
    intro h c hc
    rw [List.foldl_cons, List.foldl_cons]
    exact ih (fun b hb => h b (List.mem_cons_of_mem _ hb)) _ (by rw [putB, addL_len]; exact hc)
  | swap x y l =>
    intro h c hc
    simp only [List.foldl_cons]
    rw [put_swap (by rw [hc]; exact h _ (by simp)) (by rw [hc]; exact h _ (by simp))]
  | trans p1 p2 i1 i2 =>
    intro h c hc
    rw [i1 h c hc]
    exact i2 (fun b hb => h b (p1.mem_iff.mpr hb)) c hc
theorem cnt_perm {N : Net} (h : GoodN N) {bs bs' : List Ball} (p : bs.Perm bs') (hb : ∀ b ∈ bs, BallOk N b) : cntL N bs = cntL N bs' :=
  fold_perm (n := N.1.toNat) p (fun b hm => by have := hb b hm; unfold BallOk at this; omega) _ (by rw [List.length_replicate])
theorem put_back {c : List Int} {l : Int} (h : l.toNat < c.length) : putB (putB c (l, 1)) (l, -1) = c := by
  have l1 : (addL c l.toNat 1).length = c.length := addL_len _ _ _
  refine ext_D (by unfold putB; rw [addL_len, addL_len]) fun i _ => ?_
  unfold putB
  show (addL (addL c l.toNat 1) l.toNat (-1)).getD i 0 = c.getD i 0
  rw [add_get (-1) (by rw [l1]; exact h), add_get 1 h, add_get 1 h]
  by_cases f : l.toNat = i
  · simp [f]; omega
  · simp [f]
def MoreOk (N : Net) (m : List Ball) : Prop := (∀ b ∈ m, BallOk N b) ∧ ∀ c : List Int, c.length = N.1.toNat → m.foldl putB c = c
theorem cnt_more {N : Net} {bs m : List Ball} (h : MoreOk N m) : cntL N (bs ++ m) = cntL N bs := by
  unfold cntL
  rw [List.foldl_append]
  exact h.2 _ (by rw [foldB_len, List.length_replicate])
theorem cnt_snoc {N : Net} (bs : List Ball) (b : Ball) : cntL N (bs ++ [b]) = putB (cntL N bs) b := by
  unfold cntL
  rw [List.foldl_append]; rfl
theorem take_get {α : Type} {xs : List α} {i : Nat} {y : α} (h : xs[i]? = some y) : xs.take (i + 1) = xs.take i ++ [y] := by
  rw [List.take_add_one, h]; rfl
theorem come_eq {N : Net} (h : GoodN N) {bs : List Ball} (hb : ∀ b ∈ bs, BallOk N b) : p__law_come N bs = some (endsL N (cntL N bs), turnsL N (cntL N bs)) := by
  have : Sp (p__law_come N bs) (fun r => r = (endsL N (cntL N bs), turnsL N (cntL N bs))) := by
    have l1 := h.l1
    have l16 := h.l16
    have hm := h.many
    have el := h.elen
    have z := zero_ok h
    unfold p__law_come
    rw [repT_1 (by omega), Option.bind_some, repT_1 (by omega), Option.bind_some]
    refine w_bind (w_lpN (fun i s => s = (turnsL N (cntL N (bs.take i)), endsL N (cntL N (bs.take i)))) ?_ fun i s y hy hi => ?_) fun s hs => ?_
    · show (List.replicate (Int.toNat (N.2.1.length : Int)) 0, List.replicate N.1.toNat 0) = (turnsL N (List.replicate N.1.toNat 0), endsL N (List.replicate N.1.toNat 0))
      rw [z.1, z.2, Int.toNat_natCast]
    · subst hi
      obtain ⟨a0, a1, hd⟩ := hb y (List.mem_of_getElem? hy)
      have cl := cnt_len h (bs.take i)
      rw [take_get hy, cnt_snoc]
      simp only []
      rcases hd with e | e
      · obtain ⟨k, e1, e2, e3⟩ := passed_one h cl a0 a1
        rw [e, decide_eq_true rfl, if_pos rfl, e1, Option.bind_some, Option.bind_some]
        simp only []
        rw [atI_D 0 (by omega) (by rw [endsL_len]; omega), Option.bind_some, setT_nn (by omega) (by rw [endsL_len]; omega), Option.bind_some]
        refine w_some ?_
        unfold putB
        rw [e, e3, Int.toNat_natCast]
        rfl
      · obtain ⟨k, e1, e2, e3⟩ := back_one h cl a0 a1
        rw [e, decide_eq_false (by decide), if_neg (by simp), e1, Option.bind_some, Option.bind_some]
        simp only []
        rw [atI_D 0 (by omega) (by rw [endsL_len]; omega), Option.bind_some, setT_nn (by omega) (by rw [endsL_len]; omega), Option.bind_some]
        refine w_some ?_
        unfold putB
        rw [e, e3, Int.toNat_natCast]
        rfl
    · subst hs
      rw [List.take_length]
      exact w_some rfl
  obtain ⟨r, e, rfl⟩ := this
  exact e
theorem shuf_w {s : List Int} {bs : List Ball} (h : St2 s) (hl : bs.length ≤ 1000) : Sp (p__law_shuffled s bs) (fun r => r.1.Perm bs ∧ St2 r.2) := by
  unfold p__law_shuffled
  refine w_let fun f hf => ?_
  subst hf
  refine w_bind (w_lpN (fun i s => s.2.Perm (bs.take i) ∧ St2 s.1) ⟨.refl _, h⟩ fun i s y hy hi => ?_) fun s hs => ?_
  · have hlen := hi.1.length_eq
    rw [List.length_take] at hlen
    refine w_bind (pick_w hi.2 (by omega) (by omega)) fun u ⟨u0, u1, t⟩ => ?_
    rw [insT_of (by omega) u0 (by omega), Option.bind_some]
    refine w_some ⟨?_, t⟩
    rw [take_get hy]
    exact (ins_perm _ _ _).trans (hi.1.append_right _)
  · rw [List.take_length] at hs
    exact w_some hs
theorem p_law_true (ns : List Int) (hl : ns.length ≤ 63) : p_law ns = some true := by
  have : Sp (p_law ns) (fun b => b = true) := by
    unfold p_law
    rw [rngO_of (by omega), Option.bind_some]
    refine w_on (w_lpR (fun _ _ => True) trivial fun i s y hy _ => ?_) fun s hs => w_some rfl
    obtain ⟨y1, y2⟩ := rngI_get hy
    refine w_bind (left_w ns y (by omega) (by omega)) fun st hst => ?_
    refine w_bind (net_w hst (by decide) (by decide)) fun r ⟨hN, _, hs⟩ => ?_
    generalize r.1 = N at hN
    have l1 := hN.l1
    have l16 := hN.l16
    have hm := hN.many
    have el := hN.elen
    refine w_let fun b0 hb0 => ?_
    subst hb0
    refine w_bind (pick_w hs (by decide) (by decide)) fun u1 ⟨c0, c1, t1⟩ => ?_
    refine w_bind (P := fun x => 0 ≤ x ∧ x ≤ 30) ((w_atI c0 (by simpa using c1)).mono fun x hx => by
      simp only [List.mem_cons, List.not_mem_nil, or_false] at hx; omega) fun n hn => ?_
    rw [rngO_of (by omega), Option.bind_some]
    refine w_bind (w_lpN (fun i s => s.2.length = i ∧ (∀ b ∈ s.2, BallOk N b) ∧ St2 s.1) ⟨rfl, by simp, t1⟩ fun i s y hy hi => ?_) fun sB hB => ?_
    · obtain ⟨y1, y2⟩ := rngI_get hy
      obtain ⟨h1, h2, h3⟩ := hi
      refine w_bind (pick_w h3 (by omega) (by omega)) fun v1 ⟨a0, a1, v2⟩ => ?_
      refine w_bind (pick_w v2 (by decide) (by decide)) fun v3 ⟨d0, d1, v4⟩ => ?_
      refine w_bind (P := fun x => x = 1 ∨ x = -1) ((w_atI d0 (by simpa using d1)).mono fun x hx => by
        simp only [List.mem_cons, List.not_mem_nil, or_false] at hx; omega) fun g hg => ?_
      rw [appT_of (by omega), Option.bind_some]
      refine w_some ⟨by rw [List.length_append]; simp; omega, fun b hb => ?_, v4⟩
      rcases List.mem_append.mp hb with z | z
      · exact h2 b z
      · rw [List.mem_singleton.mp z]; exact ⟨a0, a1, hg⟩
    obtain ⟨hB1, hB2, hB3⟩ := hB
    rw [rngI_len] at hB1
    refine w_let fun m0 hm0 => ?_
    subst hm0
    refine w_bind (pick_w hB3 (by decide) (by decide)) fun u2 ⟨f0, f1, t2⟩ => ?_
    rw [rngO_of (by omega), Option.bind_some]
    refine w_bind (w_lpN (fun i s => s.2.length = 2 * i ∧ MoreOk N s.2 ∧ St2 s.1) ⟨rfl, ⟨by simp, fun _ _ => rfl⟩, t2⟩ fun i s y hy hi => ?_) fun sM hM => ?_
    · obtain ⟨y1, y2⟩ := rngI_get hy
      obtain ⟨h1, h2, h3⟩ := hi
      refine w_bind (pick_w h3 (by omega) (by omega)) fun v1 ⟨a0, a1, v2⟩ => ?_
      rw [catT_of (by simp; omega), Option.bind_some]
      refine w_some ⟨by rw [List.length_append]; simp; omega, ⟨fun b hb => ?_, fun c hc => ?_⟩, v2⟩
      · rcases List.mem_append.mp hb with z | z
        · exact h2.1 b z
        · simp only [List.mem_cons, List.not_mem_nil, or_false] at z
          rcases z with rfl | rfl
          · exact ⟨a0, a1, .inl rfl⟩
          · exact ⟨a0, a1, .inr rfl⟩
      · rw [List.foldl_append, h2.2 c hc]
        exact put_back (by rw [hc]; omega)
    obtain ⟨hM1, hM2, hM3⟩ := hM
    rw [rngI_len] at hM1
    rw [repT_1 (by omega), Option.bind_some]
    refine w_bind (w_lpN (fun i s => s = cntL N (sB.2.take i)) rfl fun i s y hy hi => ?_) fun co hco => ?_
    · subst hi
      obtain ⟨a0, a1, hd⟩ := hB2 y (List.mem_of_getElem? hy)
      have cl := cnt_len hN (sB.2.take i)
      rw [take_get hy, cnt_snoc, atI_D 0 a0 (by omega), Option.bind_some, setT_nn a0 (by omega), Option.bind_some]
      exact w_some rfl
    rw [List.take_length] at hco
    subst hco
    have cl := cnt_len hN sB.2
    rw [ends_eq hN cl, Option.bind_some, turns_eq hN cl, Option.bind_some]
    refine w_let fun due hdue => ?_
    refine w_bind (shuf_w hM3 (by omega)) fun S1 ⟨p1, t3⟩ => ?_
    rw [catT_of (by omega), Option.bind_some]
    refine w_bind (shuf_w t3 (by rw [List.length_append]; omega)) fun S2 ⟨p2, t4⟩ => ?_
    have e0 := come_eq hN hB2
    have e1 : p__law_come N S1.1 = some due := by
      rw [come_eq hN (fun b hb => hB2 b (p1.mem_iff.mp hb)), hdue, cnt_perm hN p1 (fun b hb => hB2 b (p1.mem_iff.mp hb))]
    have hall : ∀ b ∈ sB.2 ++ sM.2, BallOk N b := fun b hb => by
      rcases List.mem_append.mp hb with z | z
      · exact hB2 b z
      · exact hM2.1 b z
    have e2 : p__law_come N S2.1 = some due := by
      rw [come_eq hN (fun b hb => hall b (p2.mem_iff.mp hb)), hdue, cnt_perm hN p2 (fun b hb => hall b (p2.mem_iff.mp hb)), cnt_more hM2]
    rw [← hdue] at e0
    refine w_on (w_lpR (fun _ _ => True) trivial fun j t d hd _ => ?_) fun s _ => w_go trivial
    have ed : p__law_come N d = some due := by
      have hm := List.mem_of_getElem? hd
      simp only [List.mem_cons, List.not_mem_nil, or_false] at hm
      rcases hm with rfl | rfl | rfl
      · exact e0
      · exact e1
      · exact e2
    rw [ed, Option.bind_some]
    simp only [decide_true, Bool.not_true, Bool.false_eq_true, if_false]
    exact w_go trivial
  obtain ⟨b, e, rfl⟩ := this
  exact e
theorem law_holds : ∀ ns : List Int, ns.length ≤ 63 → ∃ as, f_law [.dict [(.none, .list (ns.map .int))]] = .ok (.bool true) as := fun ns h => ⟨_, tok_law ns true (p_law_true ns h)⟩
structure Txt (K : PySem.W.Frag) (mg : Str → Option Value) where
  a_passed : Addr
  d_passed : FuncData
  F_passed : Fun K "passed" "passed" s_passed a_passed d_passed
  g_passed : mg "passed" = some (.ref a_passed)
  b_passed : Binds K d_passed ["net", "turns", "lane"] []
  a_passed_back : Addr
  d_passed_back : FuncData
  F_passed_back : Fun K "passed_back" "passed_back" s_passed_back a_passed_back d_passed_back
  g_passed_back : mg "passed_back" = some (.ref a_passed_back)
  b_passed_back : Binds K d_passed_back ["net", "turns", "lane"] []
  a_fork_totals : Addr
  d_fork_totals : FuncData
  F_fork_totals : Fun K "fork_totals" "fork_totals" s_fork_totals a_fork_totals d_fork_totals
  g_fork_totals : mg "fork_totals" = some (.ref a_fork_totals)
  b_fork_totals : Binds K d_fork_totals ["net", "counts"] []
  a_ends_of : Addr
  d_ends_of : FuncData
  F_ends_of : Fun K "ends_of" "ends_of" s_ends_of a_ends_of d_ends_of
  g_ends_of : mg "ends_of" = some (.ref a_ends_of)
  b_ends_of : Binds K d_ends_of ["net", "counts"] []
  a_turns_of : Addr
  d_turns_of : FuncData
  F_turns_of : Fun K "turns_of" "turns_of" s_turns_of a_turns_of d_turns_of
  g_turns_of : mg "turns_of" = some (.ref a_turns_of)
  b_turns_of : Binds K d_turns_of ["net", "counts"] []
  a__law_cell_at : Addr
  d__law_cell_at : FuncData
  F__law_cell_at : Fun K "_law_cell_at" "_law_cell_at" s__law_cell_at a__law_cell_at d__law_cell_at
  g__law_cell_at : mg "_law_cell_at" = some (.ref a__law_cell_at)
  b__law_cell_at : Binds K d__law_cell_at ["_law_script", "_law_k"] []
  a__law_left : Addr
  d__law_left : FuncData
  F__law_left : Fun K "_law_left" "_law_left" s__law_left a__law_left d__law_left
  g__law_left : mg "_law_left" = some (.ref a__law_left)
  b__law_left : Binds K d__law_left ["_law_script", "_law_k"] []
  a__law_pick : Addr
  d__law_pick : FuncData
  F__law_pick : Fun K "_law_pick" "_law_pick" s__law_pick a__law_pick d__law_pick
  g__law_pick : mg "_law_pick" = some (.ref a__law_pick)
  b__law_pick : Binds K d__law_pick ["_law_left_here", "_law_many"] []
  a__law_net : Addr
  d__law_net : FuncData
  F__law_net : Fun K "_law_net" "_law_net" s__law_net a__law_net d__law_net
  g__law_net : mg "_law_net" = some (.ref a__law_net)
  b__law_net : Binds K d__law_net ["_law_left_here", "_law_most"] []
  a__law_come : Addr
  d__law_come : FuncData
  F__law_come : Fun K "_law_come" "_law_come" s__law_come a__law_come d__law_come
  g__law_come : mg "_law_come" = some (.ref a__law_come)
  b__law_come : Binds K d__law_come ["_law_net_here", "_law_balls"] []
  a__law_shuffled : Addr
  d__law_shuffled : FuncData
  F__law_shuffled : Fun K "_law_shuffled" "_law_shuffled" s__law_shuffled a__law_shuffled d__law_shuffled
  g__law_shuffled : mg "_law_shuffled" = some (.ref a__law_shuffled)
  b__law_shuffled : Binds K d__law_shuffled ["_law_left_here", "_law_some"] []
  a_law : Addr
  d_law : FuncData
  F_law : Fun K "law" "law" s_law a_law d_law
  g_law : mg "law" = some (.ref a_law)
  b_law : Binds K d_law ["_law_script"] []
  z_enumerate : mg "enumerate" = none
  z_int : mg "int" = none
  z_len : mg "len" = none
  z_list : mg "list" = none
  z_max : mg "max" = none
  z_min : mg "min" = none
  z_range : mg "range" = none
  z_tuple : mg "tuple" = none
  k_dig : PySem.W.nsIn K cStatics "sys.int_max_str_digits" = some none
section
variable {P : Program} {w : World} {K : PySem.W.Frag} {mg : Str → Option Value} {base : Heap}
theorem ok_passed (T : Txt K mg) : FnOk P w K mg base CX0 1 T.a_passed T.d_passed ["net", "turns", "lane"] (spF K 3 f_passed) :=
  fn_sim T.F_passed sc_passed rfl rfl fun cdv A outer s H E hr => ((ss_cons (ss_asg (so_var (pv 0)) (sg_tup rfl (sgs_cons (sg_name sc_passed.nd rfl (by first | exact .inl rfl | exact .inr rfl) (by rfl)) (sgs_cons (sg_name sc_passed.nd rfl (by first | exact .inl rfl | exact .inr rfl) (by rfl)) (sgs_cons (sg_name sc_passed.nd rfl (by first | exact .inl rfl | exact .inr rfl) (by rfl)) sgs_nil))))) (ss_cons (ss_set sc_passed.nd rfl (by first | exact .inl rfl | exact .inr rfl) (by rfl) (so_callTy call_list_of pr_list (by rfl) T.z_list bt_list (sa_cons (so_var (pv 1)) sa_nil))) (ss_cons (ss_for PassesOwn.never rfl (si_enum (by rfl) T.z_enumerate (sa_cons (so_var (pv 4)) sa_nil)) (sg_tup rfl (sgs_cons (sg_name sc_passed.nd rfl (by first | exact .inl rfl | exact .inr rfl) (by rfl)) (sgs_cons (sg_name sc_passed.nd rfl (by first | exact .inl rfl | exact .inr rfl) (by rfl)) sgs_nil)))
  (ss_one (ss_if (st_cmp (op_inA (units65 hr)) pr_in (so_var (pv 2)) (so_var (pv 8)) (by rfl))
  (ss_cons (ss_set sc_passed.nd rfl (by first | exact .inl rfl | exact .inr rfl) (by rfl) (so_ix (so_var (pv 8)) (so_ix (so_var (pv 6)) (so_var (pv 7))))) (ss_one (ss_setIx (pv 6) (so_var (pv 7)) (so_bin op_sub pr_sub so_int (so_ix (so_var (pv 6)) (so_var (pv 7)))))))
  ss_nil)) lkp_sub) (ss_one (ss_ret (so_tup (sa_cons (so_callTy call_tuple_ofD pr_tuple (by rfl) T.z_tuple bt_tuple (sa_cons (so_var (pv 6)) sa_nil)) (sa_cons (so_idxT (so_var (pv 5)) (so_var (pv 2))) sa_nil)))))))))
theorem ok_passed_back (T : Txt K mg) : FnOk P w K mg base CX0 1 T.a_passed_back T.d_passed_back ["net", "turns", "lane"] (spF K 3 f_passed_back) :=
  fn_sim T.F_passed_back sc_passed_back rfl rfl fun cdv A outer s H E hr => ((ss_cons (ss_asg (so_var (pv 0)) (sg_tup rfl (sgs_cons (sg_name sc_passed_back.nd rfl (by first | exact .inl rfl | exact .inr rfl) (by rfl)) (sgs_cons (sg_name sc_passed_back.nd rfl (by first | exact .inl rfl | exact .inr rfl) (by rfl)) (sgs_cons (sg_name sc_passed_back.nd rfl (by first | exact .inl rfl | exact .inr rfl) (by rfl)) sgs_nil))))) (ss_cons (ss_set sc_passed_back.nd rfl (by first | exact .inl rfl | exact .inr rfl) (by rfl) (so_callTy call_list_of pr_list (by rfl) T.z_list bt_list (sa_cons (so_var (pv 1)) sa_nil))) (ss_cons (ss_for PassesOwn.never rfl (si_enum (by rfl) T.z_enumerate (sa_cons (so_var (pv 4)) sa_nil)) (sg_tup rfl (sgs_cons (sg_name sc_passed_back.nd rfl (by first | exact .inl rfl | exact .inr rfl) (by rfl)) (sgs_cons (sg_name sc_passed_back.nd rfl (by first | exact .inl rfl | exact .inr rfl) (by rfl)) sgs_nil)))
  (ss_one (ss_if (st_cmp (op_inA (units65 hr)) pr_in (so_var (pv 2)) (so_var (pv 8)) (by rfl))
  (ss_cons (ss_setIx (pv 6) (so_var (pv 7)) (so_bin op_sub pr_sub so_int (so_ix (so_var (pv 6)) (so_var (pv 7))))) (ss_one (ss_set sc_passed_back.nd rfl (by first | exact .inl rfl | exact .inr rfl) (by rfl) (so_ix (so_var (pv 8)) (so_ix (so_var (pv 6)) (so_var (pv 7)))))))
  ss_nil)) lkp_sub) (ss_one (ss_ret (so_tup (sa_cons (so_callTy call_tuple_ofD pr_tuple (by rfl) T.z_tuple bt_tuple (sa_cons (so_var (pv 6)) sa_nil)) (sa_cons (so_idxT (so_var (pv 5)) (so_var (pv 2))) sa_nil)))))))))
theorem ok_fork_totals (T : Txt K mg) : FnOk P w K mg base CX0 1 T.a_fork_totals T.d_fork_totals ["net", "counts"] (spF K 2 f_fork_totals) :=
  fn_sim T.F_fork_totals sc_fork_totals rfl rfl fun cdv A outer s H E hr => ((ss_cons (ss_set sc_fork_totals.nd rfl (by first | exact .inl rfl | exact .inr rfl) (by rfl) (so_callTy call_list_of pr_list (by rfl) T.z_list bt_list (sa_cons (so_var (pv 1)) sa_nil))) (ss_cons (ss_set sc_fork_totals.nd rfl (by first | exact .inl rfl | exact .inr rfl) (by rfl) (so_lst sa_nil)) (ss_cons (ss_for PassesOwn.never rfl (si_seq (so_ix (so_var (pv 0)) so_int)) (sg_tup rfl (sgs_cons (sg_name sc_fork_totals.nd rfl (by first | exact .inl rfl | exact .inr rfl) (by rfl)) (sgs_cons (sg_name sc_fork_totals.nd rfl (by first | exact .inl rfl | exact .inr rfl) (by rfl)) sgs_nil)))
  (ss_cons (ss_set sc_fork_totals.nd rfl (by first | exact .inl rfl | exact .inr rfl) (by rfl) (so_bin op_addA pr_add (so_ix (so_var (pv 2)) (so_var (pv 4))) (so_ix (so_var (pv 2)) (so_var (pv 5))))) (ss_cons (ss_expr (so_mt md_app PySem.F.slot_list_append PySem.F.type_list_append mt_append (pv 3) (sa_cons (so_var (pv 6)) sa_nil))) (ss_cons (ss_setIx (pv 2) (so_var (pv 4)) (so_bin op_fdivW pr_div (so_bin op_addA pr_add (so_var (pv 6)) so_int) so_int)) (ss_one (ss_setIx (pv 2) (so_var (pv 5)) (so_bin op_fdivW pr_div (so_var (pv 6)) so_int)))))) (fun _ h => h)) (ss_one (ss_retT (sa_cons (so_var (pv 3)) (sa_cons (so_var (pv 2)) sa_nil))))))))
theorem ok_ends_of (T : Txt K mg) : FnOk P w K mg base CX0 2 T.a_ends_of T.d_ends_of ["net", "counts"] (spF K 2 f_ends_of) :=
  fn_sim T.F_ends_of sc_ends_of rfl rfl fun cdv A outer s H E hr => ((ss_cons (ss_asg (so_call (ok_fork_totals T) (hr.mono (by omega)) (by rfl) T.g_fork_totals T.F_fork_totals.kp T.b_fork_totals (sa_cons (so_var (pv 0)) (sa_cons (so_var (pv 1)) sa_nil)) (fun _ _ _ h => mkFn_len h)) (sg_tup rfl (sgs_cons (sg_name sc_ends_of.nd rfl (by first | exact .inl rfl | exact .inr rfl) (by rfl)) (sgs_cons (sg_name sc_ends_of.nd rfl (by first | exact .inl rfl | exact .inr rfl) (by rfl)) sgs_nil)))) (ss_one (ss_ret (so_callTy call_tuple_ofD pr_tuple (by rfl) T.z_tuple bt_tuple (sa_cons (so_comp (own := [("lane", 4)]) rfl sc_ends_of.nd (si_seq (so_ix (so_var (pv 0)) so_int)) (blkOk_by (by kernel_rfl)) (fun _ _ _ _ _ => (sg_name sc_ends_of.nd rfl (by first | exact .inl rfl | exact .inr rfl) (by rfl))) (fun _ _ _ _ _ => spt_nil) (fun _ _ _ _ _ => (so_ix (so_var (pv 3)) (so_var (pv 4))))) sa_nil))))))
theorem ok_turns_of (T : Txt K mg) : FnOk P w K mg base CX0 2 T.a_turns_of T.d_turns_of ["net", "counts"] (spF K 2 f_turns_of) :=
  fn_sim T.F_turns_of sc_turns_of rfl rfl fun cdv A outer s H E hr => ((ss_cons (ss_asg (so_call (ok_fork_totals T) (hr.mono (by omega)) (by rfl) T.g_fork_totals T.F_fork_totals.kp T.b_fork_totals (sa_cons (so_var (pv 0)) (sa_cons (so_var (pv 1)) sa_nil)) (fun _ _ _ h => mkFn_len h)) (sg_tup rfl (sgs_cons (sg_name sc_turns_of.nd rfl (by first | exact .inl rfl | exact .inr rfl) (by rfl)) (sgs_cons (sg_name sc_turns_of.nd rfl (by first | exact .inl rfl | exact .inr rfl) (by rfl)) sgs_nil)))) (ss_one (ss_ret (so_callTy call_tuple_ofD pr_tuple (by rfl) T.z_tuple bt_tuple (sa_cons (so_comp (own := [("many", 4)]) rfl sc_turns_of.nd (si_seq (so_var (pv 2))) (blkOk_by (by kernel_rfl)) (fun _ _ _ _ _ => (sg_name sc_turns_of.nd rfl (by first | exact .inl rfl | exact .inr rfl) (by rfl))) (fun _ _ _ _ _ => spt_nil) (fun _ _ _ _ _ => (so_bin op_mod pr_mod (so_var (pv 4)) so_int))) sa_nil))))))
theorem ok__law_cell_at (T : Txt K mg) : FnOk P w K mg base CX0 1 T.a__law_cell_at T.d__law_cell_at ["_law_script", "_law_k"] (spF K 2 f__law_cell_at) :=
  fn_sim T.F__law_cell_at sc__law_cell_at rfl rfl fun cdv A outer s H E hr => ((ss_cons (ss_if (st_cmp op_lt pr_lt (so_var (pv 1)) (so_callB cr_len pr_len (by rfl) T.z_len bt_len (sa_cons (so_var (pv 0)) sa_nil)) (nomark _))
  (ss_one (ss_ret (so_ix (so_var (pv 0)) (so_var (pv 1)))))
  ss_nil) (ss_one (ss_ret so_int))))
theorem ok__law_left (T : Txt K mg) : FnOk P w K mg base CX0 2 T.a__law_left T.d__law_left ["_law_script", "_law_k"] (spF K 2 f__law_left) :=
  fn_sim T.F__law_left sc__law_left rfl rfl fun cdv A outer s H E hr => ((ss_cons (ss_set sc__law_left.nd rfl (by first | exact .inl rfl | exact .inr rfl) (by rfl) (so_call (ok__law_cell_at T) (hr.mono (by omega)) (by rfl) T.g__law_cell_at T.F__law_cell_at.kp T.b__law_cell_at (sa_cons (so_var (pv 0)) (sa_cons (so_bin op_mod pr_mod (so_var (pv 1)) (so_callB (call_max2 rfl) pr_max2 (by rfl) T.z_max bt_max (sa_cons so_int (sa_cons (so_callB cr_len pr_len (by rfl) T.z_len bt_len (sa_cons (so_var (pv 0)) sa_nil)) sa_nil)))) sa_nil)) (fun _ _ _ h => mkFn_len h))) (ss_cons (ss_set sc__law_left.nd rfl (by first | exact .inl rfl | exact .inr rfl) (by rfl) (so_bin op_mod pr_mod (so_bin op_mulA pr_mul (so_bin op_addA pr_add (so_bin op_addA pr_add (so_bin op_mod pr_mod (so_var (pv 2)) so_int) (so_bin op_mulA pr_mul (so_bin op_mulA pr_mul so_int (so_var (pv 1))) (so_var (pv 1)))) so_int) so_int) so_int)) (ss_one (ss_ret (so_lst (sa_cons (so_bin op_mod pr_mod (so_bin op_mulA pr_mul (so_var (pv 2)) (so_callTy call_int1 pr_int (by rfl) T.z_int bt_int (sa_cons (so_cmp op_ge pr_ge (so_var (pv 2)) (so_bin op_pow pr_pow so_int so_int) (nomark _)) sa_nil))) (so_callTy (call_int_ten T.k_dig 4000 (by decide) (by decide)) (pr_intTen 4000) (by rfl) T.z_int bt_int (sa_cons (so_bin op_addA pr_add so_str (so_bin op_mulS pr_mulS so_str so_int)) sa_nil))) (sa_cons (so_var (pv 3)) sa_nil))))))))
theorem ok__law_pick (T : Txt K mg) : FnOk P w K mg base CX0 1 T.a__law_pick T.d__law_pick ["_law_left_here", "_law_many"] (spF K 2 f__law_pick) :=
  fn_sim T.F__law_pick sc__law_pick rfl rfl fun cdv A outer s H E hr => ((ss_cons (ss_if (st_cmp op_gt pr_gt (so_ix (so_var (pv 0)) so_int) so_int (nomark _))
  (ss_cons (ss_set sc__law_pick.nd rfl (by first | exact .inl rfl | exact .inr rfl) (by rfl) (so_bin op_mod pr_mod (so_ix (so_var (pv 0)) so_int) (so_var (pv 1)))) (ss_cons (ss_setIx (pv 0) so_int (so_bin op_fdivW pr_div (so_ix (so_var (pv 0)) so_int) (so_var (pv 1)))) (ss_one (ss_ret (so_var (pv 2))))))
  ss_nil) (ss_cons (ss_setIx (pv 0) so_int (so_bin op_mod pr_mod (so_bin op_addA pr_add (so_bin op_mulA pr_mul (so_ix (so_var (pv 0)) so_int) so_int) so_int) so_int)) (ss_one (ss_ret (so_bin op_mod pr_mod (so_bin op_mod pr_mod (so_bin op_mulA pr_mul (so_ix (so_var (pv 0)) so_int) (so_ix (so_var (pv 0)) so_int)) so_int) (so_var (pv 1))))))))
theorem ok__law_net (T : Txt K mg) : FnOk P w K mg base CX0 2 T.a__law_net T.d__law_net ["_law_left_here", "_law_most"] (spF K 2 f__law_net) :=
  fn_sim T.F__law_net sc__law_net rfl rfl fun cdv A outer s H E hr => ((ss_cons (ss_set sc__law_net.nd rfl (by first | exact .inl rfl | exact .inr rfl) (by rfl) (so_ix (so_lst (sa_cons so_int (sa_cons so_int (sa_cons so_int (sa_cons so_int (sa_cons so_int (sa_cons so_int (sa_cons so_int (sa_cons so_int (sa_cons so_int (sa_cons so_int sa_nil))))))))))) (so_call (ok__law_pick T) (hr.mono (by omega)) (by rfl) T.g__law_pick T.F__law_pick.kp T.b__law_pick (sa_cons (so_var (pv 0)) (sa_cons so_int sa_nil)) (fun _ _ _ h => mkFn_len h)))) (ss_cons (ss_set sc__law_net.nd rfl (by first | exact .inl rfl | exact .inr rfl) (by rfl) (so_lst sa_nil)) (ss_cons (ss_for PassesOwn.never rfl (si_range1 (by rfl) T.z_range (sa_cons (so_bin op_mulA pr_mul (so_ix (so_lst (sa_cons so_int (sa_cons so_int (sa_cons so_int (sa_cons so_int (sa_cons so_int (sa_cons so_int (sa_cons so_int (sa_cons (so_var (pv 1)) sa_nil))))))))) (so_call (ok__law_pick T) (hr.mono (by omega)) (by rfl) T.g__law_pick T.F__law_pick.kp T.b__law_pick (sa_cons (so_var (pv 0)) (sa_cons so_int sa_nil)) (fun _ _ _ h => mkFn_len h))) (so_callTy call_int1 pr_int (by rfl) T.z_int bt_int (sa_cons (so_cmp op_gt pr_gt (so_var (pv 2)) so_int (nomark _)) sa_nil))) sa_nil)) (sg_name sc__law_net.nd rfl (by first | exact .inl rfl | exact .inr rfl) (by rfl))
  (ss_cons (ss_set sc__law_net.nd rfl (by first | exact .inl rfl | exact .inr rfl) (by rfl) (so_call (ok__law_pick T) (hr.mono (by omega)) (by rfl) T.g__law_pick T.F__law_pick.kp T.b__law_pick (sa_cons (so_var (pv 0)) (sa_cons (so_var (pv 2)) sa_nil)) (fun _ _ _ h => mkFn_len h))) (ss_cons (ss_set sc__law_net.nd rfl (by first | exact .inl rfl | exact .inr rfl) (by rfl) (so_tup (sa_cons (so_var (pv 5)) (sa_cons (so_bin op_mod pr_mod (so_bin op_addA pr_add (so_bin op_addA pr_add (so_var (pv 5)) so_int) (so_call (ok__law_pick T) (hr.mono (by omega)) (by rfl) T.g__law_pick T.F__law_pick.kp T.b__law_pick (sa_cons (so_var (pv 0)) (sa_cons (so_callB (call_max2 rfl) pr_max2 (by rfl) T.z_max bt_max (sa_cons so_int (sa_cons (so_bin op_sub pr_sub (so_var (pv 2)) so_int) sa_nil))) sa_nil)) (fun _ _ _ h => mkFn_len h))) (so_var (pv 2))) sa_nil)))) (ss_cons (ss_set sc__law_net.nd rfl (by first | exact .inl rfl | exact .inr rfl) (by rfl) (so_call (ok__law_pick T) (hr.mono (by omega)) (by rfl) T.g__law_pick T.F__law_pick.kp T.b__law_pick (sa_cons (so_var (pv 0)) (sa_cons so_int sa_nil)) (fun _ _ _ h => mkFn_len h))) (ss_cons (ss_if (st_w (sw_and (st_cmp (op_neD hr.units) pr_ne (so_var (pv 3)) (so_lst sa_nil) (nomark _)) (sw_and1 (st_cmp op_lt pr_lt (so_var (pv 7)) so_int (nomark _)))))
  (ss_one (ss_set sc__law_net.nd rfl (by first | exact .inl rfl | exact .inr rfl) (by rfl) (so_ix (so_lst (sa_cons (so_ix (so_var (pv 3)) (so_un un_neg pr_neg so_int)) (sa_cons (so_step (so_ix (so_var (pv 3)) (so_un un_neg pr_neg so_int)) sp_none sp_none (sp_some (so_un un_neg pr_neg so_int))) sa_nil))) (so_var (pv 7)))))
  ss_nil) (ss_one (ss_expr (so_mt md_app PySem.F.slot_list_append PySem.F.type_list_append mt_append (pv 3) (sa_cons (so_var (pv 6)) sa_nil)))))))) (fun _ h => h)) (ss_cons (ss_set sc__law_net.nd rfl (by first | exact .inl rfl | exact .inr rfl) (by rfl) (so_lst sa_nil)) (ss_cons (ss_for PassesOwn.never rfl (si_range1 (by rfl) T.z_range (sa_cons (so_var (pv 2)) sa_nil)) (sg_name sc__law_net.nd rfl (by first | exact .inl rfl | exact .inr rfl) (by rfl))
  (ss_one (ss_expr (so_mt md_ins PySem.F.slot_list_insert PySem.F.type_list_insert mt_insert (pv 8) (sa_cons (so_call (ok__law_pick T) (hr.mono (by omega)) (by rfl) T.g__law_pick T.F__law_pick.kp T.b__law_pick (sa_cons (so_var (pv 0)) (sa_cons (so_bin op_addA pr_add (so_callB cr_len pr_len (by rfl) T.z_len bt_len (sa_cons (so_var (pv 8)) sa_nil)) so_int) sa_nil)) (fun _ _ _ h => mkFn_len h)) (sa_cons (so_var (pv 9)) sa_nil))))) (fun _ h => h)) (ss_one (ss_ret (so_tup (sa_cons (so_var (pv 2)) (sa_cons (so_callTy call_tuple_ofD pr_tuple (by rfl) T.z_tuple bt_tuple (sa_cons (so_var (pv 3)) sa_nil)) (sa_cons (so_ix (so_lst (sa_cons (so_callTy call_tuple_ofD pr_tuple (by rfl) T.z_tuple bt_tuple (sa_cons (so_var (pv 8)) sa_nil)) (sa_cons (so_tupleRg1 rfl (by rfl) T.z_tuple (by rfl) T.z_range (so_var (pv 2))) sa_nil))) (so_call (ok__law_pick T) (hr.mono (by omega)) (by rfl) T.g__law_pick T.F__law_pick.kp T.b__law_pick (sa_cons (so_var (pv 0)) (sa_cons so_int sa_nil)) (fun _ _ _ h => mkFn_len h))) sa_nil))))))))))))
theorem ok__law_come (T : Txt K mg) : FnOk P w K mg base CX0 2 T.a__law_come T.d__law_come ["_law_net_here", "_law_balls"] (spF K 2 f__law_come) :=
  fn_sim T.F__law_come sc__law_come rfl rfl fun cdv A outer s H E hr => ((ss_cons (ss_par (i := 2) (j := 3) rfl sc__law_come.nd rfl rfl (by decide) rfl rfl (by rfl) (by rfl) (sa_cons (so_bin op_mulA pr_mul (so_tup (sa_cons so_int sa_nil)) (so_callB cr_len pr_len (by rfl) T.z_len bt_len (sa_cons (so_ix (so_var (pv 0)) so_int) sa_nil))) (sa_cons (so_bin op_mulA pr_mul (so_lst (sa_cons so_int sa_nil)) (so_ix (so_var (pv 0)) so_int)) sa_nil))) (ss_cons (ss_for PassesOwn.never rfl (si_seq (so_var (pv 1))) (sg_tup rfl (sgs_cons (sg_name sc__law_come.nd rfl (by first | exact .inl rfl | exact .inr rfl) (by rfl)) (sgs_cons (sg_name sc__law_come.nd rfl (by first | exact .inl rfl | exact .inr rfl) (by rfl)) sgs_nil)))
  (ss_cons (ss_if (st_cmp (op_eqD hr.units) pr_eq (so_var (pv 5)) so_int (nomark _))
  (ss_one (ss_asg (so_call (ok_passed T) (hr.mono (by omega)) (by rfl) T.g_passed T.F_passed.kp T.b_passed (sa_cons (so_var (pv 0)) (sa_cons (so_var (pv 2)) (sa_cons (so_var (pv 4)) sa_nil))) (fun _ _ _ h => mkFn_len h)) (sg_tup rfl (sgs_cons (sg_name sc__law_come.nd rfl (by first | exact .inl rfl | exact .inr rfl) (by rfl)) (sgs_cons (sg_name sc__law_come.nd rfl (by first | exact .inl rfl | exact .inr rfl) (by rfl)) sgs_nil)))))
  (ss_one (ss_asg (so_call (ok_passed_back T) (hr.mono (by omega)) (by rfl) T.g_passed_back T.F_passed_back.kp T.b_passed_back (sa_cons (so_var (pv 0)) (sa_cons (so_var (pv 2)) (sa_cons (so_var (pv 4)) sa_nil))) (fun _ _ _ h => mkFn_len h)) (sg_tup rfl (sgs_cons (sg_name sc__law_come.nd rfl (by first | exact .inl rfl | exact .inr rfl) (by rfl)) (sgs_cons (sg_name sc__law_come.nd rfl (by first | exact .inl rfl | exact .inr rfl) (by rfl)) sgs_nil)))))) (ss_one (ss_setIx (pv 3) (so_var (pv 6)) (so_bin op_addA pr_add (so_ix (so_var (pv 3)) (so_var (pv 6))) (so_var (pv 5)))))) lkp_sub) (ss_one (ss_ret (so_tup (sa_cons (so_callTy call_tuple_ofD pr_tuple (by rfl) T.z_tuple bt_tuple (sa_cons (so_var (pv 3)) sa_nil)) (sa_cons (so_var (pv 2)) sa_nil))))))))
theorem ok__law_shuffled (T : Txt K mg) : FnOk P w K mg base CX0 2 T.a__law_shuffled T.d__law_shuffled ["_law_left_here", "_law_some"] (spF K 2 f__law_shuffled) :=
  fn_sim T.F__law_shuffled sc__law_shuffled rfl rfl fun cdv A outer s H E hr => ((ss_cons (ss_set sc__law_shuffled.nd rfl (by first | exact .inl rfl | exact .inr rfl) (by rfl) (so_lst sa_nil)) (ss_cons (ss_for PassesOwn.never rfl (si_seq (so_var (pv 1))) (sg_name sc__law_shuffled.nd rfl (by first | exact .inl rfl | exact .inr rfl) (by rfl))
  (ss_one (ss_expr (so_mt md_ins PySem.F.slot_list_insert PySem.F.type_list_insert mt_insert (pv 2) (sa_cons (so_call (ok__law_pick T) (hr.mono (by omega)) (by rfl) T.g__law_pick T.F__law_pick.kp T.b__law_pick (sa_cons (so_var (pv 0)) (sa_cons (so_bin op_addA pr_add (so_callB cr_len pr_len (by rfl) T.z_len bt_len (sa_cons (so_var (pv 2)) sa_nil)) so_int) sa_nil)) (fun _ _ _ h => mkFn_len h)) (sa_cons (so_var (pv 3)) sa_nil))))) lkp_sub) (ss_one (ss_ret (so_var (pv 2)))))))
theorem ok_law (T : Txt K mg) : FnOk P w K mg base CX0 3 T.a_law T.d_law ["_law_script"] (spF K 1 f_law) :=
  fn_sim T.F_law sc_law rfl rfl fun cdv A outer s H E hr => ((ss_cons (ss_for PassesOwn.never rfl (si_range1 (by rfl) T.z_range (sa_cons (so_callB (call_max2 rfl) pr_max2 (by rfl) T.z_max bt_max (sa_cons so_int (sa_cons (so_callB (call_min2 rfl) pr_min2 (by rfl) T.z_min bt_min (sa_cons so_int (sa_cons (so_callB cr_len pr_len (by rfl) T.z_len bt_len (sa_cons (so_var (pv 0)) sa_nil)) sa_nil))) sa_nil))) sa_nil)) (sg_name sc_law.nd rfl (by first | exact .inl rfl | exact .inr rfl) (by rfl))
  (ss_cons (ss_set sc_law.nd rfl (by first | exact .inl rfl | exact .inr rfl) (by rfl) (so_call (ok__law_left T) (hr.mono (by omega)) (by rfl) T.g__law_left T.F__law_left.kp T.b__law_left (sa_cons (so_var (pv 0)) (sa_cons (so_var (pv 1)) sa_nil)) (fun _ _ _ h => mkFn_len h))) (ss_cons (ss_set sc_law.nd rfl (by first | exact .inl rfl | exact .inr rfl) (by rfl) (so_call (ok__law_net T) (hr.mono (by omega)) (by rfl) T.g__law_net T.F__law_net.kp T.b__law_net (sa_cons (so_var (pv 2)) (sa_cons so_int sa_nil)) (fun _ _ _ h => mkFn_len h))) (ss_cons (ss_set sc_law.nd rfl (by first | exact .inl rfl | exact .inr rfl) (by rfl) (so_lst sa_nil)) (ss_cons (ss_for PassesOwn.never rfl (si_range1 (by rfl) T.z_range (sa_cons (so_ix (so_lst (sa_cons so_int (sa_cons so_int (sa_cons so_int (sa_cons so_int sa_nil))))) (so_call (ok__law_pick T) (hr.mono (by omega)) (by rfl) T.g__law_pick T.F__law_pick.kp T.b__law_pick (sa_cons (so_var (pv 2)) (sa_cons so_int sa_nil)) (fun _ _ _ h => mkFn_len h))) sa_nil)) (sg_name sc_law.nd rfl (by first | exact .inl rfl | exact .inr rfl) (by rfl))
  (ss_one (ss_expr (so_mt md_app PySem.F.slot_list_append PySem.F.type_list_append mt_append (pv 4) (sa_cons (so_tup (sa_cons (so_call (ok__law_pick T) (hr.mono (by omega)) (by rfl) T.g__law_pick T.F__law_pick.kp T.b__law_pick (sa_cons (so_var (pv 2)) (sa_cons (so_ix (so_var (pv 3)) so_int) sa_nil)) (fun _ _ _ h => mkFn_len h)) (sa_cons (so_ix (so_lst (sa_cons so_int (sa_cons so_int (sa_cons (so_un un_neg pr_neg so_int) sa_nil)))) (so_call (ok__law_pick T) (hr.mono (by omega)) (by rfl) T.g__law_pick T.F__law_pick.kp T.b__law_pick (sa_cons (so_var (pv 2)) (sa_cons so_int sa_nil)) (fun _ _ _ h => mkFn_len h))) sa_nil))) sa_nil)))) (fun _ h => h)) (ss_cons (ss_set sc_law.nd rfl (by first | exact .inl rfl | exact .inr rfl) (by rfl) (so_lst sa_nil)) (ss_cons (ss_for PassesOwn.never rfl (si_range1 (by rfl) T.z_range (sa_cons (so_call (ok__law_pick T) (hr.mono (by omega)) (by rfl) T.g__law_pick T.F__law_pick.kp T.b__law_pick (sa_cons (so_var (pv 2)) (sa_cons so_int sa_nil)) (fun _ _ _ h => mkFn_len h)) sa_nil)) (sg_name sc_law.nd rfl (by first | exact .inl rfl | exact .inr rfl) (by rfl))
  (ss_cons (ss_set sc_law.nd rfl (by first | exact .inl rfl | exact .inr rfl) (by rfl) (so_call (ok__law_pick T) (hr.mono (by omega)) (by rfl) T.g__law_pick T.F__law_pick.kp T.b__law_pick (sa_cons (so_var (pv 2)) (sa_cons (so_ix (so_var (pv 3)) so_int) sa_nil)) (fun _ _ _ h => mkFn_len h))) (ss_one (ss_expr (so_mt md_ext PySem.F.slot_list_extend PySem.F.type_list_extend mt_extend (pv 6) (sa_cons (so_lst (sa_cons (so_tup (sa_cons (so_var (pv 7)) (sa_cons so_int sa_nil))) (sa_cons (so_tup (sa_cons (so_var (pv 7)) (sa_cons (so_un un_neg pr_neg so_int) sa_nil))) sa_nil))) sa_nil))))) (fun _ h => h)) (ss_cons (ss_set sc_law.nd rfl (by first | exact .inl rfl | exact .inr rfl) (by rfl) (so_bin op_mulA pr_mul (so_lst (sa_cons so_int sa_nil)) (so_ix (so_var (pv 3)) so_int))) (ss_cons (ss_for PassesOwn.never rfl (si_seq (so_var (pv 4))) (sg_tup rfl (sgs_cons (sg_name sc_law.nd rfl (by first | exact .inl rfl | exact .inr rfl) (by rfl)) (sgs_cons (sg_name sc_law.nd rfl (by first | exact .inl rfl | exact .inr rfl) (by rfl)) sgs_nil)))
  (ss_one (ss_setIx (pv 8) (so_var (pv 7)) (so_bin op_addA pr_add (so_ix (so_var (pv 8)) (so_var (pv 7))) (so_var (pv 9))))) lkp_sub) (ss_cons (ss_set sc_law.nd rfl (by first | exact .inl rfl | exact .inr rfl) (by rfl) (so_tup (sa_cons (so_call (ok_ends_of T) (hr.mono (by omega)) (by rfl) T.g_ends_of T.F_ends_of.kp T.b_ends_of (sa_cons (so_var (pv 3)) (sa_cons (so_callTy call_tuple_ofD pr_tuple (by rfl) T.z_tuple bt_tuple (sa_cons (so_var (pv 8)) sa_nil)) sa_nil)) (fun _ _ _ h => mkFn_len h)) (sa_cons (so_call (ok_turns_of T) (hr.mono (by omega)) (by rfl) T.g_turns_of T.F_turns_of.kp T.b_turns_of (sa_cons (so_var (pv 3)) (sa_cons (so_callTy call_tuple_ofD pr_tuple (by rfl) T.z_tuple bt_tuple (sa_cons (so_var (pv 8)) sa_nil)) sa_nil)) (fun _ _ _ h => mkFn_len h)) sa_nil)))) (ss_one (ss_for PassesOwn.never rfl (si_seq (so_lstF (pv 4) (sa_cons (so_frz (so_call (ok__law_shuffled T) (hr.mono (by omega)) (by rfl) T.g__law_shuffled T.F__law_shuffled.kp T.b__law_shuffled (sa_cons (so_var (pv 2)) (sa_cons (so_var (pv 4)) sa_nil)) (fun _ _ _ h => mkFn_len h))) (sa_cons (so_frz (so_call (ok__law_shuffled T) (hr.mono (by omega)) (by rfl) T.g__law_shuffled T.F__law_shuffled.kp T.b__law_shuffled (sa_cons (so_var (pv 2)) (sa_cons (so_bin op_addA pr_add (so_var (pv 4)) (so_var (pv 6))) sa_nil)) (fun _ _ _ h => mkFn_len h))) sa_nil)))) (sg_name sc_law.nd rfl (by first | exact .inl rfl | exact .inr rfl) (by rfl))
  (ss_one (ss_if (st_cmp (op_neD hr.units) pr_ne (so_call (ok__law_come T) (hr.mono (by omega)) (by rfl) T.g__law_come T.F__law_come.kp T.b__law_come (sa_cons (so_var (pv 3)) (sa_cons (so_var (pv 11)) sa_nil)) (fun _ _ _ h => mkFn_len h)) (so_var (pv 10)) (nomark _))
  (ss_one (ss_ret so_bl))
  ss_nil)) (fun _ h => h)))))))))))) (fun _ h => h)) (ss_one (ss_ret so_bl))))
end
theorem all_mk {l : PySem.W.OpenLaw} {w : World} {K : PySem.W.Frag} {h : Heap} {mg : Str → Option Value} {fa f1 f2 f3 f4 f5 f6 f7 f8 f9 f10 f11 f12 : Addr} (X : K.In h) (G : h.Ns mainGlobals mg) (hfa : mg "law" = some (.ref fa))
    {od1 an1 od2 an2 od3 an3 od4 an4 od5 an5 od6 an6 od7 an7 od8 an8 od9 an9 od10 an10 od11 an11 od12 an12 : Option Addr} {sl1 sl2 sl3 sl4 sl5 sl6 sl7 sl8 sl9 sl10 sl11 sl12 : Array (Option Value)} {oc1 kV1 dc1 pm1 cd1 ct1 oc2 kV2 dc2 pm2 cd2 ct2 oc3 kV3 dc3 pm3 cd3 ct3 oc4 kV4 dc4 pm4 cd4 ct4 oc5 kV5 dc5 pm5 cd5 ct5 oc6 kV6 dc6 pm6 cd6 ct6 oc7 kV7 dc7 pm7 cd7 ct7 oc8 kV8 dc8 pm8 cd8 ct8 oc9 kV9 dc9 pm9 cd9 ct9 oc10 kV10 dc10 pm10 cd10 ct10 oc11 kV11 dc11 pm11 cd11 ct11 oc12 kV12 dc12 pm12 cd12 ct12 : Value}
    (a1 : PySem.W.nsIn K mainGlobals "passed" = some (some (.ref f1))) (l1 : K.lookup f1 = some ⟨oc1, od1, .func (PySem.W.fnOf "passed" "passed" (defArgs s_passed) (defBody s_passed) (defScope s_passed) .none kV1 dc1 pm1 an1 cd1 ct1), sl1⟩) (c1 : PySem.W.codeIn K cd1 "passed" = true) (k1 : PySem.W.keepIn K (.ref f1) = true)
    (a2 : PySem.W.nsIn K mainGlobals "passed_back" = some (some (.ref f2))) (l2 : K.lookup f2 = some ⟨oc2, od2, .func (PySem.W.fnOf "passed_back" "passed_back" (defArgs s_passed_back) (defBody s_passed_back) (defScope s_passed_back) .none kV2 dc2 pm2 an2 cd2 ct2), sl2⟩) (c2 : PySem.W.codeIn K cd2 "passed_back" = true) (k2 : PySem.W.keepIn K (.ref f2) = true)
    (a3 : PySem.W.nsIn K mainGlobals "fork_totals" = some (some (.ref f3))) (l3 : K.lookup f3 = some ⟨oc3, od3, .func (PySem.W.fnOf "fork_totals" "fork_totals" (defArgs s_fork_totals) (defBody s_fork_totals) (defScope s_fork_totals) .none kV3 dc3 pm3 an3 cd3 ct3), sl3⟩) (c3 : PySem.W.codeIn K cd3 "fork_totals" = true) (k3 : PySem.W.keepIn K (.ref f3) = true)
    (a4 : PySem.W.nsIn K mainGlobals "ends_of" = some (some (.ref f4))) (l4 : K.lookup f4 = some ⟨oc4, od4, .func (PySem.W.fnOf "ends_of" "ends_of" (defArgs s_ends_of) (defBody s_ends_of) (defScope s_ends_of) .none kV4 dc4 pm4 an4 cd4 ct4), sl4⟩) (c4 : PySem.W.codeIn K cd4 "ends_of" = true) (k4 : PySem.W.keepIn K (.ref f4) = true)
    (a5 : PySem.W.nsIn K mainGlobals "turns_of" = some (some (.ref f5))) (l5 : K.lookup f5 = some ⟨oc5, od5, .func (PySem.W.fnOf "turns_of" "turns_of" (defArgs s_turns_of) (defBody s_turns_of) (defScope s_turns_of) .none kV5 dc5 pm5 an5 cd5 ct5), sl5⟩) (c5 : PySem.W.codeIn K cd5 "turns_of" = true) (k5 : PySem.W.keepIn K (.ref f5) = true)
    (a6 : PySem.W.nsIn K mainGlobals "_law_cell_at" = some (some (.ref f6))) (l6 : K.lookup f6 = some ⟨oc6, od6, .func (PySem.W.fnOf "_law_cell_at" "_law_cell_at" (defArgs s__law_cell_at) (defBody s__law_cell_at) (defScope s__law_cell_at) .none kV6 dc6 pm6 an6 cd6 ct6), sl6⟩) (c6 : PySem.W.codeIn K cd6 "_law_cell_at" = true) (k6 : PySem.W.keepIn K (.ref f6) = true)
    (a7 : PySem.W.nsIn K mainGlobals "_law_left" = some (some (.ref f7))) (l7 : K.lookup f7 = some ⟨oc7, od7, .func (PySem.W.fnOf "_law_left" "_law_left" (defArgs s__law_left) (defBody s__law_left) (defScope s__law_left) .none kV7 dc7 pm7 an7 cd7 ct7), sl7⟩) (c7 : PySem.W.codeIn K cd7 "_law_left" = true) (k7 : PySem.W.keepIn K (.ref f7) = true)
    (a8 : PySem.W.nsIn K mainGlobals "_law_pick" = some (some (.ref f8))) (l8 : K.lookup f8 = some ⟨oc8, od8, .func (PySem.W.fnOf "_law_pick" "_law_pick" (defArgs s__law_pick) (defBody s__law_pick) (defScope s__law_pick) .none kV8 dc8 pm8 an8 cd8 ct8), sl8⟩) (c8 : PySem.W.codeIn K cd8 "_law_pick" = true) (k8 : PySem.W.keepIn K (.ref f8) = true)
    (a9 : PySem.W.nsIn K mainGlobals "_law_net" = some (some (.ref f9))) (l9 : K.lookup f9 = some ⟨oc9, od9, .func (PySem.W.fnOf "_law_net" "_law_net" (defArgs s__law_net) (defBody s__law_net) (defScope s__law_net) .none kV9 dc9 pm9 an9 cd9 ct9), sl9⟩) (c9 : PySem.W.codeIn K cd9 "_law_net" = true) (k9 : PySem.W.keepIn K (.ref f9) = true)
    (a10 : PySem.W.nsIn K mainGlobals "_law_come" = some (some (.ref f10))) (l10 : K.lookup f10 = some ⟨oc10, od10, .func (PySem.W.fnOf "_law_come" "_law_come" (defArgs s__law_come) (defBody s__law_come) (defScope s__law_come) .none kV10 dc10 pm10 an10 cd10 ct10), sl10⟩) (c10 : PySem.W.codeIn K cd10 "_law_come" = true) (k10 : PySem.W.keepIn K (.ref f10) = true)
    (a11 : PySem.W.nsIn K mainGlobals "_law_shuffled" = some (some (.ref f11))) (l11 : K.lookup f11 = some ⟨oc11, od11, .func (PySem.W.fnOf "_law_shuffled" "_law_shuffled" (defArgs s__law_shuffled) (defBody s__law_shuffled) (defScope s__law_shuffled) .none kV11 dc11 pm11 an11 cd11 ct11), sl11⟩) (c11 : PySem.W.codeIn K cd11 "_law_shuffled" = true) (k11 : PySem.W.keepIn K (.ref f11) = true)
    (a12 : PySem.W.nsIn K mainGlobals "law" = some (some (.ref f12))) (l12 : K.lookup f12 = some ⟨oc12, od12, .func (PySem.W.fnOf "law" "law" (defArgs s_law) (defBody s_law) (defScope s_law) .none kV12 dc12 pm12 an12 cd12 ct12), sl12⟩) (c12 : PySem.W.codeIn K cd12 "law" = true) (k12 : PySem.W.keepIn K (.ref f12) = true)
    (z_enumerate : PySem.W.nsIn K mainGlobals "enumerate" = some none)
    (z_int : PySem.W.nsIn K mainGlobals "int" = some none)
    (z_len : PySem.W.nsIn K mainGlobals "len" = some none)
    (z_list : PySem.W.nsIn K mainGlobals "list" = some none)
    (z_max : PySem.W.nsIn K mainGlobals "max" = some none)
    (z_min : PySem.W.nsIn K mainGlobals "min" = some none)
    (z_range : PySem.W.nsIn K mainGlobals "range" = some none)
    (z_tuple : PySem.W.nsIn K mainGlobals "tuple" = some none)
    (k_dig : PySem.W.nsIn K cStatics "sys.int_max_str_digits" = some none)
    : ∃ fd : FuncData, (∀ (s : Shared) (v : Value), BindsTo s fd ⟨[v], []⟩ [("_law_script", v)]) ∧ ∀ base : Heap, K.In base → base.Ns mainGlobals mg → FnOk l.prog w K mg base CX0 3 fa fd ["_law_script"] (spF K 1 f_law) := by
  have e := hfa.symm.trans (PySem.W.mg_of X G a12)
  have e2 : f12 = fa := by cases e; rfl
  subst e2
  have F1 := fun_mk (st := s_passed) l1 c1 k1
  have b1 := F1.binds (ps := ["net", "turns", "lane"]) fun _ _ _ _ _ _ us hl => match us, hl with | [_, _, _], _ => rfl
  have F2 := fun_mk (st := s_passed_back) l2 c2 k2
  have b2 := F2.binds (ps := ["net", "turns", "lane"]) fun _ _ _ _ _ _ us hl => match us, hl with | [_, _, _], _ => rfl
  have F3 := fun_mk (st := s_fork_totals) l3 c3 k3
  have b3 := F3.binds (ps := ["net", "counts"]) fun _ _ _ _ _ _ us hl => match us, hl with | [_, _], _ => rfl
  have F4 := fun_mk (st := s_ends_of) l4 c4 k4
  have b4 := F4.binds (ps := ["net", "counts"]) fun _ _ _ _ _ _ us hl => match us, hl with | [_, _], _ => rfl
  have F5 := fun_mk (st := s_turns_of) l5 c5 k5
  have b5 := F5.binds (ps := ["net", "counts"]) fun _ _ _ _ _ _ us hl => match us, hl with | [_, _], _ => rfl
  have F6 := fun_mk (st := s__law_cell_at) l6 c6 k6
  have b6 := F6.binds (ps := ["_law_script", "_law_k"]) fun _ _ _ _ _ _ us hl => match us, hl with | [_, _], _ => rfl
  have F7 := fun_mk (st := s__law_left) l7 c7 k7
  have b7 := F7.binds (ps := ["_law_script", "_law_k"]) fun _ _ _ _ _ _ us hl => match us, hl with | [_, _], _ => rfl
  have F8 := fun_mk (st := s__law_pick) l8 c8 k8
  have b8 := F8.binds (ps := ["_law_left_here", "_law_many"]) fun _ _ _ _ _ _ us hl => match us, hl with | [_, _], _ => rfl
  have F9 := fun_mk (st := s__law_net) l9 c9 k9
  have b9 := F9.binds (ps := ["_law_left_here", "_law_most"]) fun _ _ _ _ _ _ us hl => match us, hl with | [_, _], _ => rfl
  have F10 := fun_mk (st := s__law_come) l10 c10 k10
  have b10 := F10.binds (ps := ["_law_net_here", "_law_balls"]) fun _ _ _ _ _ _ us hl => match us, hl with | [_, _], _ => rfl
  have F11 := fun_mk (st := s__law_shuffled) l11 c11 k11
  have b11 := F11.binds (ps := ["_law_left_here", "_law_some"]) fun _ _ _ _ _ _ us hl => match us, hl with | [_, _], _ => rfl
  have F12 := fun_mk (st := s_law) l12 c12 k12
  have b12 := F12.binds (ps := ["_law_script"]) fun _ _ _ _ _ _ us hl => match us, hl with | [_], _ => rfl
  let T : Txt K mg := { a_passed := f1, d_passed := _, F_passed := F1, g_passed := PySem.W.mg_of X G a1, b_passed := b1, a_passed_back := f2, d_passed_back := _, F_passed_back := F2, g_passed_back := PySem.W.mg_of X G a2, b_passed_back := b2, a_fork_totals := f3, d_fork_totals := _, F_fork_totals := F3, g_fork_totals := PySem.W.mg_of X G a3, b_fork_totals := b3, a_ends_of := f4, d_ends_of := _, F_ends_of := F4, g_ends_of := PySem.W.mg_of X G a4, b_ends_of := b4, a_turns_of := f5, d_turns_of := _, F_turns_of := F5, g_turns_of := PySem.W.mg_of X G a5, b_turns_of := b5, a__law_cell_at := f6, d__law_cell_at := _, F__law_cell_at := F6, g__law_cell_at := PySem.W.mg_of X G a6, b__law_cell_at := b6, a__law_left := f7, d__law_left := _, F__law_left := F7, g__law_left := PySem.W.mg_of X G a7, b__law_left := b7, a__law_pick := f8, d__law_pick := _, F__law_pick := F8, g__law_pick := PySem.W.mg_of X G a8, b__law_pick := b8, a__law_net := f9, d__law_net := _, F__law_net := F9, g__law_net := PySem.W.mg_of X G a9, b__law_net := b9, a__law_come := f10, d__law_come := _, F__law_come := F10, g__law_come := PySem.W.mg_of X G a10, b__law_come := b10, a__law_shuffled := f11, d__law_shuffled := _, F__law_shuffled := F11, g__law_shuffled := PySem.W.mg_of X G a11, b__law_shuffled := b11, a_law := f12, d_law := _, F_law := F12, g_law := PySem.W.mg_of X G a12, b_law := b12, z_enumerate := PySem.W.mg_none_of X G z_enumerate, z_int := PySem.W.mg_none_of X G z_int, z_len := PySem.W.mg_none_of X G z_len, z_list := PySem.W.mg_none_of X G z_list, z_max := PySem.W.mg_none_of X G z_max, z_min := PySem.W.mg_none_of X G z_min, z_range := PySem.W.mg_none_of X G z_range, z_tuple := PySem.W.mg_none_of X G z_tuple, k_dig := k_dig }
  exact ⟨PySem.W.fnOf "law" "law" (defArgs s_law) (defBody s_law) (defScope s_law) .none kV12 dc12 pm12 an12 cd12 ct12, fun s v => .of_eq rfl, fun base _ _ => (ok_law T)⟩
end Sim

open PySem PySem.W PyProof.Rows in
set_option maxRecDepth 100000 in
set_option maxHeartbeats 0 in
theorem PySem.Challenge.cw_stairlanes_k13_whole_orders_of_balls_holds : PySem.Challenge.rw_stairlanes_k13_whole_orders_of_balls.Holds := by
  w_on; o_law; k_head; (case hw => w_witness2)
  k_fill
  refine L2.walk_ofK (l := PySem.Challenge.rw_stairlanes_k13_whole_orders_of_balls) (n := 63) (k := 3) (x := "_law_script") (CX := L2.CX0) (sp := fun K => Sim.spF K 1 Sim.f_law) rfl (by decide) rfl ⟨rfl, by decide, by decide⟩ (fun w h Y => PySem.W.kIn_of Y) ?F (fun K H a ns h1 h2 h3 => Sim.spF_law Sim.law_holds K H a ns h1 h2 h3) (fun _ _ _ _ h => h)
  case F =>
    intro w mg fa h KX G hmg
    refine' Sim.all_mk KX G hmg ?a1 ?l1 ?c1 ?k1 ?a2 ?l2 ?c2 ?k2 ?a3 ?l3 ?c3 ?k3 ?a4 ?l4 ?c4 ?k4 ?a5 ?l5 ?c5 ?k5 ?a6 ?l6 ?c6 ?k6 ?a7 ?l7 ?c7 ?k7 ?a8 ?l8 ?c8 ?k8 ?a9 ?l9 ?c9 ?k9 ?a10 ?l10 ?c10 ?k10 ?a11 ?l11 ?c11 ?k11 ?a12 ?l12 ?c12 ?k12 ?z_enumerate ?z_int ?z_len ?z_list ?z_max ?z_min ?z_range ?z_tuple ?k_dig
    (case a1 => k_is); (case l1 => k_is); (case c1 => k_is); (case k1 => k_is); (case a2 => k_is); (case l2 => k_is); (case c2 => k_is); (case k2 => k_is); (case a3 => k_is); (case l3 => k_is); (case c3 => k_is); (case k3 => k_is); (case a4 => k_is); (case l4 => k_is); (case c4 => k_is); (case k4 => k_is); (case a5 => k_is); (case l5 => k_is); (case c5 => k_is); (case k5 => k_is); (case a6 => k_is); (case l6 => k_is); (case c6 => k_is); (case k6 => k_is); (case a7 => k_is); (case l7 => k_is); (case c7 => k_is); (case k7 => k_is); (case a8 => k_is); (case l8 => k_is); (case c8 => k_is); (case k8 => k_is); (case a9 => k_is); (case l9 => k_is); (case c9 => k_is); (case k9 => k_is); (case a10 => k_is); (case l10 => k_is); (case c10 => k_is); (case k10 => k_is); (case a11 => k_is); (case l11 => k_is); (case c11 => k_is); (case k11 => k_is); (case a12 => k_is); (case l12 => k_is); (case c12 => k_is); (case k12 => k_is); (case z_enumerate => k_is); (case z_int => k_is); (case z_len => k_is); (case z_list => k_is); (case z_max => k_is); (case z_min => k_is); (case z_range => k_is); (case z_tuple => k_is); (case k_dig => k_is)
