import PyProof.Rows.All
import Wide.All
import OpenK.AllK
import Wide.FinOn
import HandS.Style
import HandS.TupAny
import KE.KRevSl
import HandS.TupMul
import HandS.ForMost
import HandS.Conv
import KE.KDictKeyed
import KE.KDictDisplayH
import KE.KDictWalk
import HandS.IsInst
import HandS.Zip
import HandS.Deep
import HandS.Wide
import HandS.Defaults
import HandS.DictComp
import HandS.TupSets
import HandS.Codes
import KE.KSortTupG
import HandS.TupLen
import Lean
import KE.KStateDown
import HandS.Ends
import HandS.More
import HandS.Words
import HandS.WordsExc
import HandS.Head0
import HandS.Head1
import HandS.Head2
import HandS.HeadEnd
import HandS.HeadHook1
import HandS.HeadHook2
import HandS.HeadHook3
import HandS.HeadHook4
import PySem.Challenge.RW_blindpress_k06_whole_rows_that_shut_blin
set_option Elab.async false
set_option linter.all false
set_option maxRecDepth 100000
set_option maxHeartbeats 4000000
namespace HT
open PySem PySem.Spec PyProof.Rows
section
variable {prog : Program} {w : World} {A : Around} {E : Value → Shared → Prop} {s : Shared}
theorem sliceApplied_rev {sl : Addr} {vl vu vs : Value} {n : Nat} {Q : Int × Int × Nat → Shared → Prop} (hs : s.heap.IsSliceOf sl vl vu vs) (pl : IsPart vl none) (pu : IsPart vu none) (ps : IsPart vs (some (-1)))
    (h : Q ((n : Int) - 1, -1, n) s) : wpAny (model prog w) A (Builtin.Slice.sliceApplied (.ref sl) (pure (n : Int))) Q E s := by
  obtain ⟨os, hos, hcs, hds⟩ := id hs
  unfold Builtin.Slice.sliceApplied Builtin.Slice.sliceFields
  refine wpAny_bind (wpAny_bind (wpAny_field hos hds (x := vl) rfl (wpAny_bind (wpAny_field hos hds (x := vu) rfl (wpAny_bind (wpAny_field hos hds (x := vs) rfl (wpAny_pure ?_)))))))
  refine wpAny_bind (slicePart_ ps ?_)
  show wpAny _ _ (if ((-1 : Int) == 0) = true then _ else _) _ _ s
  rw [if_neg (by decide)]
  refine wpAny_bind (slicePart_ pl (wpAny_bind (slicePart_ pu (wpAny_bind (wpAny_pure ?_)))))
  show wpAny _ _ (pure ((n : Int) - 1, (-1 : Int), Builtin.Slice.slicePlaces ((n : Int) - 1) (-1) (-1))) _ _ s
  have e : Builtin.Slice.slicePlaces ((n : Int) - 1) (-1) (-1) = n := by
    unfold Builtin.Slice.slicePlaces
    rw [if_neg (by decide)]
    split
    · rw [show (n : Int) - 1 - -1 - 1 = (n : Int) - 1 by omega, show (- -1 : Int) = 1 by decide, Int.ediv_one]; omega
    · omega
  rw [e]
  exact wpAny_pure h
theorem fm_map {α β : Type} {f : α → Option β} {g : α → β} : ∀ l : List α, (∀ m ∈ l, f m = some (g m)) → l.filterMap f = l.map g
  | [], _ => rfl
  | a :: l, h => by
    rw [List.filterMap_cons, h a (List.mem_cons_self ..), List.map_cons, fm_map l fun m hm => h m (List.mem_cons_of_mem _ hm)]
theorem pick_rev (xs : Array Value) : ((List.range xs.size).filterMap fun (m : Nat) => xs[(((xs.size : Nat) : Int) - 1 + (m : Int) * -1).toNat]?).toArray = xs.toList.reverse.toArray := by
  congr 1
  apply List.ext_getElem?
  intro i
  have e : ∀ m ∈ List.range xs.size, xs[(((xs.size : Nat) : Int) - 1 + (m : Int) * -1).toNat]? = some (xs.toList.reverse.getD m .none) := fun m hm => by
    rw [List.mem_range] at hm
    have e1 : (((xs.size : Nat) : Int) - 1 + (m : Int) * -1).toNat = xs.size - 1 - m := by omega
    have hl : m < xs.toList.reverse.length := by simpa using hm
    rw [e1, List.getD_eq_getElem?_getD, List.getElem?_eq_getElem hl, List.getElem_reverse, ← Array.getElem?_toList, List.getElem?_eq_getElem (by simp; omega)]
    simp
  have e2 : (List.range xs.size).filterMap (fun (m : Nat) => xs[(((xs.size : Nat) : Int) - 1 + (m : Int) * -1).toNat]?) = (List.range xs.size).map fun m => xs.toList.reverse.getD m .none := by
    exact fm_map _ e
  rw [e2, List.getElem?_map]
  by_cases hi : i < xs.size
  · rw [List.getElem?_range hi]
    have hl : i < xs.toList.reverse.length := by simpa using hi
    rw [List.getElem?_eq_getElem hl]
    simp [List.getD_eq_getElem?_getD, List.getElem?_eq_getElem hl]
  · rw [List.getElem?_eq_none (by simpa using hi), List.getElem?_eq_none (by simpa using hi)]; rfl
theorem getItem_tuple_rev {t sl : Addr} {items : Array Value} {vl vu vs : Value} {Q : Value → Shared → Prop} (ht : IsTup s.heap t items) (hs : s.heap.IsSliceOf sl vl vu vs) (pl : IsPart vl none) (pu : IsPart vu none) (ps : IsPart vs (some (-1)))
    (h : Q (.ref s.heap.objs.size) { s with heap := s.heap.push { cls := .type "tuple", data := .seq items.toList.reverse.toArray } })
    (hsz : items.size ≤ sizeLine) : wpAny (model prog w) A (getItem (.ref t) (.ref sl)) Q E s := by
  have htake : sizeOk (.seq items.toList.reverse.toArray) := by
    show items.toList.reverse.toArray.size ≤ sizeLine
    rw [List.size_toArray, List.length_reverse, Array.length_toList]
    exact hsz
  obtain ⟨os, hos, hcs, hds⟩ := id hs
  have hTs : s.TypeIs (.ref sl) "slice" := ⟨os, hos, hcs⟩
  unfold getItem
  try with_reducible refine wpAny_holding ?_
  first | refine wpAny_bind (wpAny_pure ?_) | skip
  refine wpAny_bind (wpAny_sequenceKey ht.typeIs (by decide) ?_)
  refine wpAny_bind (wpAny_callSpecial?_slot (name := Str.ofString "__getitem__") ht.typeIs PyProof.Rows.slot_tuple_getitem
    (wpAny_call_entry PyProof.Rows.slot_tuple_getitem ht.typeIs entry_tuple_getitem ?_ (args_tuple_getitem _ _)))
  show wpAny _ _ (Builtin.Tuple.tupleItemsOf (.ref t) >>= _) _ _ s
  refine wpAny_bind (tupleItemsOf_ ht ?_)
  refine wpAny_bind (wpAny_typeOf hTs ?_)
  rw [if_pos (by decide)]
  refine wpAny_bind (sliceApplied_rev hs pl pu ps ?_)
  have hno : ¬ ((((items.size : Nat) : Int) - 1 == 0 && (-1 : Int) == 1 && items.size == items.size) = true) := by
    intro q
    rw [Bool.and_eq_true, Bool.and_eq_true] at q
    exact absurd q.1.2 (by decide)
  show wpAny _ _ (if (((items.size : Nat) : Int) - 1 == 0 && (-1 : Int) == 1 && items.size == items.size) = true then _ else _) _ _ s
  rw [if_neg hno, pick_rev]
  first
    | exact wpAny_bind (m := Builtin.Tuple.tupleExact _) (wpAny_newObj_type (wpAny_pure ⟨_, rfl, wpAny_pure h⟩) htake)
    | exact wpAny_bind (m := Builtin.Tuple.tupleExact _) (wpAny_newObj_type (wpAny_bind (wpAny_pure (wpAny_pure ⟨_, rfl, wpAny_pure h⟩))) htake)
    | exact wpAny_bind (wpAny_bind (m := Builtin.Tuple.tupleExact _) (wpAny_newObj_type (wpAny_pure (wpAny_pure ⟨_, rfl, wpAny_pure h⟩)) htake))
    | exact wpAny_bind (wpAny_bind (m := Builtin.Tuple.tupleExact _) (wpAny_newObj_type (wpAny_pure ⟨_, rfl, wpAny_pure h⟩) htake))
end
end HT
namespace L2
open PySem PySem.Spec PyProof.Rows
section
variable {X : Cx}
def tRevA (K : PySem.W.Frag) (te : TE) : TE := fun σ H Q => te σ H fun x H1 => ∃ a xs, x = .ref a ∧ ((SqL K H1 a xs ∧ ∀ p, H1 p = none → Q (.ref p) (upd H1 p (.lst xs.reverse))) ∨ (SqT K H1 a xs ∧ ∀ p, H1 p = none → Q (.ref p) (upd H1 p (.tup xs.reverse))))
theorem pe_revA {e : Expr} {te : TE} {k : Nat} {p1 p2 p3 pos : Pos} (he : PE X e te) : PE X (.Subscript e (.Slice none none (some (.UnaryOp .USub (.Constant (.int 1) k p1) p2)) p3) pos) (tRevA X.K te) := by
  refine ⟨fun pins s σ H Q I h => ?_⟩
  refine Subscript_ (thn (he.run pins s σ H _ I h) fun v s1 ⟨x, H1, I1, r1, q1⟩ => ?_)
  obtain ⟨a, xs, ex, hq⟩ := q1
  subst ex
  cases r1
  have hst : PO X (some (.UnaryOp .USub (.Constant (.int 1) k p1) p2)) (tPart (tUn (rU fun i => .int (-i)) (tC (.int 1)))) := po_some (pe_un un_neg pe_int)
  refine wpAny_Slice (thn (po_none.run pins s1 σ H1 (fun o H2 => o = none ∧ H2 = H1) I1 ⟨rfl, rfl⟩) fun vl s2 ⟨l, H2, I2, pl, el, e2⟩ => ?_)
  subst el e2
  refine thn (po_none.run pins s2 σ H2 (fun o H3 => o = none ∧ H3 = H2) I2 ⟨rfl, rfl⟩) fun vu s3 ⟨u, H3, I3, pu, eu, e3⟩ => ?_
  subst eu e3
  refine thn (hst.run pins s3 σ H3 (fun o H4 => o = some (-1) ∧ H4 = H3) I3 ⟨1, rfl, -1, rfl, rfl, rfl⟩) fun vs s4 ⟨o, H4, I4, ps, eo, e4⟩ => ?_
  subst eo e4
  have I5 : Inv X pins σ H4 { s4 with heap := s4.heap.push { cls := .type "slice", data := .fields #[vl, vu, vs] } } := I4.kept (t' := s4.toks) fun b ob q => Heap.get?_push_of_some _ q
  show wpAny (model X.prog X.w) X.A (subscriptTail e (.Slice none none (some (.UnaryOp .USub (.Constant (.int 1) k p1) p2)) p3) (.ref a) (.ref s4.heap.objs.size)) (EP X pins σ Q) X.xe { s4 with heap := s4.heap.push { cls := .type "slice", data := .fields #[vl, vu, vs] } }
  rcases hq with ⟨hx, q⟩ | ⟨hx, q⟩
  · obtain ⟨its, r, ht, hz⟩ := I5.list hx
    have hlen := r.length
    refine tail_any (ops := [.ref a, .ref s4.heap.objs.size]) ht.isList.typeIs (PySem.slot_list_getitem.lookup) ?_ (by with_unfolding_all rfl)
    refine wpAny_getItem_list_slice ht.isList (Heap.IsSliceOf.new _ vl vu vs) pl pu ps (by decide) ?_ (by rw [List.size_toArray]; omega)
    rw [PySem.W.krv_pick]
    refine ⟨.ref _, _, I5.laid (t' := s4.toks) (o := .lst xs.reverse) (fun b ob q => Heap.get?_push_of_some _ q) (Nat.le_refl _) ?_, rfl, q _ (I5.hok.fresh (Nat.le_refl _))⟩
    exact ⟨by rw [List.length_reverse]; exact hz, _, 0, r.reverse, Heap.get?_push_size _ rfl⟩
  · obtain ⟨its, r, ht, hz⟩ := I5.tuple hx
    have hlen := r.length
    refine tail_any (ops := [.ref a, .ref s4.heap.objs.size]) ht.typeIs (PyProof.Rows.slot_tuple_getitem.lookup) ?_ (by with_unfolding_all rfl)
    refine HT.getItem_tuple_rev ht (Heap.IsSliceOf.new _ vl vu vs) pl pu ps ?_ (by rw [List.size_toArray]; omega)
    refine ⟨.ref _, _, I5.laid (t' := s4.toks) (o := .tup xs.reverse) (fun b ob q => Heap.get?_push_of_some _ q) (Nat.le_refl _) ?_, rfl, q _ (I5.hok.fresh (Nat.le_refl _))⟩
    exact ⟨by rw [List.length_reverse]; exact hz, _, r.reverse, IsTup.new _ _⟩
end
end L2

namespace L2
open PySem PySem.Spec PyProof.Rows
theorem tuple_mul_same (l : Addr) (items : Array Value) (n : Nat) (dd : Option Addr) (sl : Array (Option Value)) (x : Int) (u : Tok) (c0 : (decide (x < -(2 ^ 63)) || decide (x ≥ 2 ^ 63)) = false) (c1 : (items.isEmpty || x == 1) = true) :
    Meets (Builtin.«tuple.__mul__» ⟨[.ref l, .int x u], []⟩) (fun _ R s => s.heap.get? l = some { cls := .type "tuple", dict := dd, data := .seq items n, slots := sl } ∧ R (.ok (.ret (Value.ref l))) s) :=
  .of_wp fun prog w A R s hq => by
    obtain ⟨hp, g, dr, tk, os⟩ := s
    obtain ⟨hl, hr⟩ := hq
    have fi := AutoSeq1.idx_int
    wp_walk using wpAny_loadPart' hl
    repeat (first
      | (refine wpAny_ite_false (decide_eq_false (by rw [c0]; exact Bool.false_ne_true)) ?_; wp_walk using wpAny_loadPart' hl)
      | (refine wpAny_ite_true (decide_eq_true c1) ?_; wp_walk using wpAny_loadPart' hl))
    exact ⟨_, rfl, hr⟩
def rRepS (K : PySem.W.Frag) : R2 := fun x y H Q => ∃ l k xs, x = .ref l ∧ y = .int k ∧ SqT K H l xs ∧ 1 ≤ k ∧ k ≤ 1000 ∧ (k = 1 ∨ xs = []) ∧ Q (.ref l) H
theorem op_repS {X : Cx} : OpR X (binaryOp .Mult) (rRepS X.K) := by
  intro pins s σ H x y v u Q I rx ry hq
  obtain ⟨l, k, xs, rfl, rfl, hT, g1, g2, g3, q⟩ := hq
  cases rx
  obtain ⟨t, rfl⟩ := ry
  obtain ⟨its, r, ⟨⟨cls, dd, data, sl⟩, ho, hc, n, hd⟩, hs⟩ := I.tuple hT
  simp only at hc hd
  subst hc hd
  have c0 : (decide (k < -(2 ^ 63)) || decide (k ≥ 2 ^ 63)) = false := by
    have a1 : ¬ k < -(2 ^ 63) := by omega
    have a2 : ¬ k ≥ 2 ^ 63 := by omega
    rw [decide_eq_false a1, decide_eq_false a2] <;> rfl
  have c1 : (its.toArray.isEmpty || k == 1) = true := by
    rcases g3 with rfl | rfl
    · simp
    · cases r; rfl
  refine wpAny_binaryOp_repeat_ref (T := "tuple") (U := "int") (by decide) ⟨_, ho, rfl⟩ (fun s' => typeIs_int s' k t) noFill_tuple_mul F.fills_int_mul F.slot_int_rmul repeat_tuple F.slot_int_index.lookup ?_
  refine call_meets F.slot_int_rmul (typeIs_int s k t) F.entry_int_rmul (F.args_int_rmul_2 _ _) (int_rmul_tuple k t l its.toArray n dd sl) ⟨ho, rfl, ⟨_, ho, rfl⟩, ?_⟩
  exact call_meets F.slot_tuple_mul ⟨_, ho, rfl⟩ F.entry_tuple_mul (F.args_tuple_mul_2 _ _) (tuple_mul_same l its.toArray n dd sl k t c0 c1) ⟨ho, .ref l, H, I, rfl, q⟩
end L2

namespace Ev
open PySem

/-- data: what a value is, its content told (box n: the n-th object of the store, by reference) -/
inductive D where
  | non | bl (b : Bool) | int (i : Int) | str (x : Str)
  | tup (ds : List D) | lst (ds : List D)
  /-- t: its keys are tuples, else texts -/
  | dct (t : Bool) (ks vs : List D) | box (n : Nat)
  /-- a list that is read alone -/
  | ro (ds : List D)
  deriving Inhabited

/-- objects of the store: a list, a dict, a dict while it is walked, one that was handed on -/
inductive B where
  | lst (ds : List D) | dct (t : Bool) (ks vs : List D) | lk (t : Bool) (ks vs : List D) | dead
  deriving Inhabited
abbrev Store := List B
abbrev M (α : Type) := Store → Option (α × Store)
abbrev Env := List (Option D)

def LIM : Nat := 1000000
/-- a text of code points -/
def strOkE (x : Str) : Bool := x.cps.all (· < 0x110000)

mutual
/-- == of Python -/
def D.eqv : D → D → Bool
  | .non, .non => true
  | .bl a, .bl b => a == b
  | .bl a, .int j => (if a then 1 else 0) == j
  | .int i, .bl b => i == (if b then 1 else 0)
  | .int i, .int j => i == j
  | .str x, .str y => x == y
  | .lst xs, .lst ys => D.eqvs xs ys
  | .tup xs, .tup ys => D.eqvs xs ys
  | _, _ => false
def D.eqvs : List D → List D → Bool
  | [], [] => true
  | x :: xs, y :: ys => D.eqv x y && D.eqvs xs ys
  | _, _ => false
end
mutual
/-- no dict, no box within, at most n deep -/
def D.pl : Nat → D → Bool
  | _, .non | _, .bl _ | _, .int _ => true
  | _, .str x => strOkE x
  | n + 1, .tup ds | n + 1, .lst ds => D.pls n ds
  | _, _ => false
def D.pls : Nat → List D → Bool
  | _, [] => true
  | n, d :: ds => D.pl n d && D.pls n ds
end
mutual
/-- all references are to the first n objects -/
def D.under (n : Nat) : D → Bool
  | .tup ds | .lst ds | .ro ds => D.unders n ds
  | .dct t ks vs => D.unders n ks && D.unders n vs
  | .box m => decide (m < n)
  | _ => true
def D.unders (n : Nat) : List D → Bool
  | [] => true
  | d :: ds => D.under n d && D.unders n ds
end
def B.under (n : Nat) : B → Bool
  | .lst ds => D.unders n ds
  | .dct t ks vs | .lk t ks vs => D.unders n ks && D.unders n vs
  | .dead => true

/-- a box's content as data -/
def rd (st : Store) : D → D
  | .box n => match st[n]? with
    | some (.lst ds) => .lst ds
    | some (.dct t ks vs) | some (.lk t ks vs) => .dct t ks vs
    | _ => .box n
  | d => d
/-- .. a read-only list's too -/
def rdR (st : Store) : D → D
  | .ro ds => .lst ds
  | d => rd st d

inductive Op where
  | add | sub | mul | fdiv | mod | pow
inductive Cm where
  | eq | ne | lt | le | gt | ge | isin | notin | is_ | isnot
inductive Ty where
  | int | str | bool | list | tuple
  deriving DecidableEq
inductive P where
  | len | abs | max2 | min2 | max1 | int | bool | str | sorted | sortset | tuple | list | dict | all | any
  /-- of a dict: len, list, sorted -/
  | dlen | dlist | dsorted
  | isin (tys : List Ty)
inductive Mt where
  | append | pop | get

def binD : Op → D → D → Option D
  | .add, .int i, .int j => some (.int (i + j))
  | .add, .lst xs, .lst ys => if xs.length + ys.length ≤ LIM then some (.lst (xs ++ ys)) else none
  | .add, .tup xs, .tup ys => if xs.length + ys.length ≤ LIM then some (.tup (xs ++ ys)) else none
  | .add, .str x, .str y => if x.length + y.length ≤ LIM then some (.str (x ++ y)) else none
  | .sub, .int i, .int j => some (.int (i - j))
  | .mul, .int i, .int j => if (-(2 ^ 64) < i ∧ i < 2 ^ 64) ∨ (-(2 ^ 64) < j ∧ j < 2 ^ 64) then some (.int (i * j)) else none
  | .mul, .lst xs, .int k => if 0 ≤ k ∧ k ≤ 1000 ∧ xs.length ≤ 1000 then some (.lst (List.replicate k.toNat xs).flatten) else none
  | .mul, .tup xs, .int k => if 1 ≤ k ∧ k ≤ 1000 ∧ (k = 1 ∨ xs = []) then some (.tup xs) else if 2 ≤ k ∧ k ≤ 1000 ∧ xs ≠ [] ∧ xs.length ≤ 1000 then some (.tup (List.replicate k.toNat xs).flatten) else none
  | .fdiv, .int i, .int j => if 0 < j ∧ j < 1073741824 then some (.int (i / j)) else none
  | .mod, .int i, .int j => if 0 < j then some (.int (i % j)) else none
  | .pow, .int i, .int j => if 0 ≤ j ∧ j ≤ 1000000 ∧ i.natAbs < 2 ^ 64 then some (.int (i ^ j.toNat)) else none
  | _, _, _ => none

/-- where a key stands -/
def kfind : List D → D → Option Nat
  | [], _ => none
  | k :: ks, x => if D.eqv k x then some 0 else (kfind ks x).map (· + 1)
def dget (ks vs : List D) (k : D) : Option D := (kfind ks k).bind fun i => vs[i]?
def dput (ks vs : List D) (k v : D) : List D × List D := match kfind ks k with
  | some i => (ks, vs.set i v)
  | none => (ks ++ [k], vs ++ [v])
mutual
/-- a part of a key that is a tuple: no texts, at most n deep -/
def tkey : Nat → D → Bool
  | _, .non | _, .bl _ | _, .int _ => true
  | n + 1, .tup ds => tkeys n ds
  | _, _ => false
def tkeys : Nat → List D → Bool
  | _, [] => true
  | n, d :: ds => tkey n d && tkeys n ds
end
/-- a key that is a tuple -/
def keyT : D → Bool
  | .tup ds => tkeys 7 ds
  | _ => false
/-- a key of a dict: a text, or a tuple -/
def keyOk : D → Bool
  | .str x => strOkE x
  | .tup ds => tkeys 7 ds
  | _ => false
/-- the kind of a dict's keys: texts, or tuples -/
def isStr : D → Bool
  | .str _ => true
  | _ => false
def allStr : List D → Bool
  | [] => true
  | d :: ds => isStr d && allStr ds
/-- a key fits the dict -/
def keyFits (t : Bool) (k : D) : Bool := keyOk k && (isStr k != t)

def scal : D → D → Bool
  | .non, .non | .bl _, .bl _ | .int _, .int _ | .str _, .str _ => true
  | _, _ => false
def eqD (a b : D) : Option Bool := if scal a b || (D.pl 8 a && D.pl 8 b) then some (D.eqv a b) else none
def inD (x : D) : D → Option Bool
  | .lst ds => if D.pl 8 x && D.pls 8 ds then some (ds.any fun z => D.eqv z x) else none
  | .tup ds => if isStr x && allStr ds then some (ds.any fun z => D.eqv z x) else none
  | _ => none
def cmpD : Cm → D → D → Option Bool
  | .eq, a, b => eqD a b
  | .ne, a, b => (eqD a b).map (!·)
  | .lt, .int i, .int j => some (decide (i < j))
  | .le, .int i, .int j => some (decide (i ≤ j))
  | .gt, .int i, .int j => some (decide (j < i))
  | .ge, .int i, .int j => some (decide (j ≤ i))
  | .isin, a, b => inD a b
  | .notin, a, b => (inD a b).map (!·)
  | .is_, a, .non => some (match a with | .non => true | _ => false)
  | .isnot, a, .non => some (match a with | .non => false | _ => true)
  | _, _, _ => none

def isTy : D → Ty → Bool
  | .bl _, .int | .int _, .int | .str _, .str | .bl _, .bool | .lst _, .list | .tup _, .tuple => true
  | _, _ => false
/-- an item at an index of any sign -/
def atD (xs : List D) (i : Int) : Option D :=
  if 0 ≤ i then (if i < xs.length then xs[i.toNat]? else none) else if -(xs.length : Int) ≤ i then xs[(i + xs.length).toNat]? else none
def cutF (n d : Nat) : Option Int → Nat
  | none => d
  | some i => if i < 0 then (i + n).toNat else min i.toNat n
def cutD (xs : List D) (lo hi : Option Int) : List D := (xs.drop (cutF xs.length 0 lo)).take (cutF xs.length xs.length hi - cutF xs.length 0 lo)
def asInts : List D → Option (List Int)
  | [] => some []
  | .int i :: ds => (asInts ds).map (i :: ·)
  | _ => none
def bools : List D → Option (List Bool)
  | [] => some []
  | .bl b :: ds => (bools ds).map (b :: ·)
  | _ => none
def maxI : List Int → Int
  | [] => 0
  | [x] => x
  | x :: xs => max x (maxI xs)

def ltI : List Int → List Int → Bool
  | [], [] => false
  | [], _ :: _ => true
  | _ :: _, [] => false
  | x :: xs, y :: ys => if x = y then ltI xs ys else decide (x < y)
/-- put a row into a sorted list -/
def insI (x : List Int) : List (List Int) → List (List Int)
  | [] => [x]
  | y :: ys => if ltI y x then y :: insI x ys else x :: y :: ys
def sortI : List (List Int) → List (List Int)
  | [] => []
  | x :: xs => insI x (sortI xs)
def insS (x : Str) : List Str → List Str
  | [] => [x]
  | y :: ys => if y.cps.toList < x.cps.toList then y :: insS x ys else x :: y :: ys
def sortS : List Str → List Str
  | [] => []
  | x :: xs => insS x (sortS xs)
def rowOf : D → Option (List Int)
  | .tup ds => asInts ds
  | _ => none
def rows : List D → Option (List (List Int))
  | [] => some []
  | d :: ds => (rowOf d).bind fun r => (rows ds).map (r :: ·)
def asStrs : List D → Option (List Str)
  | [] => some []
  | .str x :: ds => (asStrs ds).map (x :: ·)
  | _ => none
def ofRow (r : List Int) : D := .tup (r.map .int)
/-- rows that can be sorted: few, short, of one length, of small ints -/
def smallRow (n : Nat) (r : List Int) : Bool := r.length == n && r.all fun i => decide (-30 ≤ i ∧ i ≤ 30)
def rowsOk (rs : List (List Int)) : Bool := decide (rs.length < 64) && match rs with
  | [] => true
  | r :: _ => decide (1 ≤ r.length ∧ r.length ≤ 8) && rs.all (smallRow r.length)
def dedup : List (List Int) → List (List Int)
  | [] => []
  | x :: xs => if (dedup xs).contains x then dedup xs else x :: dedup xs
def sortR (ds : List D) : Option (List D) := (rows ds).bind fun rs => if rowsOk rs then some ((sortI rs).map ofRow) else none
def sortT (ds : List D) : Option (List D) := (asStrs ds).bind fun ss => if ss.length < 64 then some ((sortS ss).map .str) else none
def dedupS : List Str → List Str
  | [] => []
  | x :: xs => if (dedupS xs).contains x then dedupS xs else x :: dedupS xs
/-- sorted(set(..)) -/
def sortSetR (ds : List D) : Option (List D) := (rows ds).bind fun rs => if rowsOk rs then some ((sortI (dedup rs)).map ofRow) else none
def pairs : List D → Option (List (D × D))
  | [] => some []
  | .tup [k, v] :: ds => (pairs ds).map ((k, v) :: ·)
  | _ => none
def dmake (t : Bool) : List (D × D) → List D × List D → Option (List D × List D)
  | [], r => some r
  | (k, v) :: ps, (ks, vs) => if keyFits t k then dmake t ps (dput ks vs k v) else none

def primD : P → List D → Option D
  | .len, [.lst ds] | .len, [.tup ds] => some (.int ds.length)
  | .dlen, [.dct t ks _] => some (.int ks.length)
  | .len, [.str x] => if x.length ≤ LIM then some (.int x.length) else none
  | .abs, [.int i] => some (.int (if i < 0 then -i else i))
  | .max2, [.int i, .int j] => some (.int (if j > i then j else i))
  | .min2, [.int i, .int j] => some (.int (if j < i then j else i))
  | .max1, [.lst ds] => (asInts ds).bind fun is => if is = [] then none else some (.int (maxI is))
  | .int, [.int i] => some (.int i)
  | .int, [.bl b] => some (.int (if b then 1 else 0))
  | .bool, [.bl b] => some (.bl b)
  | .str, [.int i] => if i.natAbs < 1000 then some (.str (toString i)) else none
  | .sorted, [.lst ds] => (sortR ds).map .lst
  | .dsorted, [.dct t ks _] => (if t then sortR ks else sortT ks).map .lst
  | .sortset, [.lst ds] => (sortSetR ds).map .lst
  | .tuple, [.lst ds] => some (.tup ds)
  | .tuple, [.tup ds] => some (.tup ds)
  | .list, [.lst ds] | .list, [.tup ds] => some (.lst ds)
  | .dlist, [.dct t ks _] => if t then some (.lst ks) else none
  | .dict, [.lst ds] => if 1000 < ds.length then none else (pairs ds).bind fun ps => (dmake true ps ([], [])).map fun r => .dct true r.1 r.2
  | .all, [.lst ds] => (bools ds).map fun bs => .bl (bs.all id)
  | .any, [.lst ds] => (bools ds).map fun bs => .bl (bs.any id)
  | .isin tys, [d] => match d with
    | .box _ | .dct _ _ _ | .ro _ => none
    | d => some (.bl (tys.any (isTy d)))
  | _, _ => none

/-- a[i] -/
def subD : D → D → Option D
  | .lst ds, .int i | .tup ds, .int i => atD ds i
  | _, _ => none
/-- d[k] of a dict -/
def dsubD : D → D → Option D
  | .dct t ks vs, k => if keyFits t k then dget ks vs k else none
  | _, _ => none
def dinD : D → D → Option Bool
  | .dct t ks _, k => if keyFits t k then some (kfind ks k).isSome else none
  | _, _ => none

inductive T where
  | name (i : Nat)
  | tup (ts : List T)
mutual
inductive E where
  | var (i : Nat)
  | glob (x : Str) (d : D)
  | int (i : Int) | bl (b : Bool) | non | str (x : Str)
  | tup (es : List E)
  /-- b: it is a box -/
  | lst (b : Bool) (es : List E)
  /-- b: it is a box; t: tuple keys -/
  | dct (b t : Bool) (kvs : KVs)
  | bin (op : Op) (a b : E)
  | neg (a : E)
  | not (a : E)
  | and (a b : E) | or (a b : E)
  | ite (c a b : E)
  | cmp (op : Cm) (a b : E)
  | chain (op op' : Cm) (a b c : E)
  | call (f : Nat) (es : List E)
  | prim (p : P) (es : List E)
  /-- the answer is a new box -/
  | primB (p : P) (es : List E)
  | sub (a i : E)
  /-- of a dict: d[k]; k in d, k not in d -/
  | dsub (d k : E) | din (neg : Bool) (k d : E)
  | cut (a : E) (lo hi : Option E)
  | rev (a : E)
  /-- a + b of lists, as a new box -/
  | catB (a b : E)
  /-- list(range(..)) -/
  | lrng1 (a : E) | lrng2 (a b : E)
  | append (o e : E) | pop (o : E) | get1 (o k : E) | get2 (o k x : E)
  | comp (own : List Nat) (elt : E) (tg : T) (it : I) (cond : Option E)
  | dcomp (b t : Bool) (own : List Nat) (k v : E) (tg : T) (it : I) (cond : Option E)
  /-- {k: v for k in d}, d a box, v True or False -/
  | dcp (own : Nat) (d : E) (v : Bool)
  | frz (e : E)
inductive KVs where
  | nil | cons (k v : E) (r : KVs)
inductive I where
  | seq (e : E) | keys (e : E) | items (e : E) | rng1 (a : E) | rng2 (a b : E) | zip (a b : E) | enum (e : E)
end
inductive S where
  | asg (t : T) (e : E)
  | setI (o i e : E)
  /-- of a dict -/
  | setK (o k e : E)
  | expr (e : E)
  | ret (e : E)
  | ite (c : E) (a b : List S)
  | whl (c : E) (b : List S)
  | for_ (t : T) (it : I) (b : List S)
  | pass
  | raise

structure Ctx where
  call : Nat → List D → M D
  base : Nat
  fuel : Nat

mutual
def bindT : T → D → Env → Option Env
  | .name i, d, ρ => some (ρ.set i (some d))
  | .tup ts, d, ρ => match d with
    | .tup ds => bindTs ts ds ρ
    | _ => none
def bindTs : List T → List D → Env → Option Env
  | [], [], ρ => some ρ
  | t :: ts, d :: ds, ρ => (bindT t d ρ).bind fun ρ' => bindTs ts ds ρ'
  | _, _, _ => none
end
def wipeE (ρ : Env) : List Nat → Env
  | [] => ρ
  | v :: vs => (wipeE ρ vs).set v none


/-- a walk over items -/
def walkL {α : Type} (step : D → α → M α) : List D → α → M α
  | [], a, st => some (a, st)
  | d :: ds, a, st => (step d a st).bind fun r => walkL step ds r.1 r.2
/-- what a statement comes to -/
inductive Fl where
  | nx (ρ : Env) | rt (d : D) | bk (ρ : Env)
/-- a for's walk -/
def walkF (step : D → Env → M Fl) : List D → Env → M Fl
  | [], ρ, st => some (.nx ρ, st)
  | d :: ds, ρ, st => (step d ρ st).bind fun r => match r.1 with
    | .nx ρ' => walkF step ds ρ' r.2
    | .rt d => some (.rt d, r.2)
    | .bk ρ' => some (.nx ρ', r.2)
/-- a while's -/
def whileF (c : Env → M Bool) (step : Env → M Fl) : Nat → Env → M Fl
  | 0, _, _ => none
  | n + 1, ρ, st => (c ρ st).bind fun b => if b.1 then (step ρ b.2).bind fun r => match r.1 with
      | .nx ρ' => whileF c step n ρ' r.2
      | .rt d => some (.rt d, r.2)
      | .bk ρ' => some (.nx ρ', r.2)
    else some (.nx ρ, b.2)

/-- an object is changed: one of the call's own, or what is stored has no box within -/
def put (base : Nat) (st : Store) (n : Nat) (d : D) (b : B) : Option Store :=
  if base ≤ n ∨ D.under 0 d = true then some (st.set n b) else none
def new (b : Bool) (d : D) (st : Store) : Option (D × Store) := if b then (match d with
  | .lst ds => some (.box st.length, st ++ [.lst ds])
  | .dct t ks vs => some (.box st.length, st ++ [.dct t ks vs])
  | _ => none) else some (d, st)
def appendD (base : Nat) (o x : D) (st : Store) : Option (D × Store) := match o with
  | .box n => match st[n]? with
    | some (.lst ds) => if ds.length < LIM then (put base st n x (.lst (ds ++ [x]))).map fun st' => (.non, st') else none
    | _ => none
  | _ => none
/-- a list's box -/
def isLB (o : D) (st : Store) : Bool := match o with
  | .box n => match st[n]? with
    | some (.lst _) => true
    | _ => false
  | _ => false
def popD (o : D) (st : Store) : Option (D × Store) := match o with
  | .box n => match st[n]? with
    | some (.lst ds) => match ds.getLast? with
      | some d => some (d, st.set n (.lst ds.dropLast))
      | none => none
    | _ => none
  | _ => none
/-- o[i] = e of a list's box -/
def setL (base : Nat) (o i x : D) (st : Store) : Option Store := match o with
  | .box n => match st[n]?, i with
    | some (.lst ds), .int k => if 0 ≤ k ∧ k < ds.length then put base st n x (.lst (ds.set k.toNat x)) else none
    | _, _ => none
  | _ => none
/-- d[k] = e of a dict's box -/
def setK (base : Nat) (o k x : D) (st : Store) : Option Store := match o with
  | .box n => match st[n]? with
    | some (.dct t ks vs) => if keyFits t k && decide (ks.length < LIM) then put base st n x (.dct t (dput ks vs k x).1 (dput ks vs k x).2) else none
    | _ => none
  | _ => none
def isDct : D → Bool
  | .dct _ _ _ => true
  | _ => false
def frzD (base : Nat) (o : D) (st : Store) : Option (D × Store) := match o with
  | .box n => match st[n]? with
    | some (.lst ds) => if base ≤ n then some (.lst ds, st.set n .dead) else none
    | some (.dct t ks vs) => if base ≤ n then some (.dct t ks vs, st.set n .dead) else none
    | _ => none
  | _ => none
def getD1 (o k : D) : Option D := match o with
  | .dct t ks vs => if keyFits t k then some ((dget ks vs k).getD .non) else none
  | _ => none
def getD2 (o k x : D) : Option D := match o with
  | .dct t ks vs => if keyFits t k then some ((dget ks vs k).getD x) else none
  | _ => none
def rngD (lo hi : Int) : Option (List D) := if -(2 ^ 40) ≤ lo ∧ lo < 2 ^ 40 ∧ -(2 ^ 40) ≤ hi ∧ hi < 2 ^ 40 then some ((List.range (hi - lo).toNat).map fun (i : Nat) => .int (lo + i)) else none
def seqD : D → Option (List D)
  | .lst ds | .tup ds => some ds
  | _ => none
def zipD : D → D → Option (List D)
  | .lst xs, .lst ys | .tup xs, .tup ys => if xs.length = ys.length then some ((xs.zip ys).map fun p => .tup [p.1, p.2]) else none
  | _, _ => none
def enumD (ds : List D) : List D := ((List.range ds.length).zip ds).map fun p => .tup [.int p.1, p.2]
def isBl : D → Option Bool
  | .bl b => some b
  | _ => none
def chainD (op : Cm) (a b : D) (st : Store) : Option Bool := cmpD op (rd st a) (rd st b)

mutual
def evE (c : Ctx) : E → Env → M D
  | .var i => fun ρ st => match ρ[i]? with
    | some (some d) => some (d, st)
    | _ => none
  | .glob _ d => fun _ st => some (d, st)
  | .int i => fun _ st => some (.int i, st)
  | .bl b => fun _ st => some (.bl b, st)
  | .non => fun _ st => some (.non, st)
  | .str x => fun _ st => some (.str x, st)
  | .tup es => fun ρ st => (evEs c es ρ st).bind fun r => if r.1.length ≤ LIM then some (.tup r.1, r.2) else none
  | .lst b es => fun ρ st => (evEs c es ρ st).bind fun r => if r.1.length ≤ LIM then new b (.lst r.1) r.2 else none
  | .dct b t kvs => fun ρ st => (evPs c kvs ρ st).bind fun r => (dmake t r.1 ([], [])).bind fun q => new b (.dct t q.1 q.2) r.2
  | .bin op a b => fun ρ st => (evE c a ρ st).bind fun r => (evE c b ρ r.2).bind fun q => (binD op (rd q.2 r.1) (rd q.2 q.1)).map fun d => (d, q.2)
  | .neg a => fun ρ st => (evE c a ρ st).bind fun r => match r.1 with
    | .int i => some (.int (-i), r.2)
    | _ => none
  | .not a => fun ρ st => (evE c a ρ st).bind fun r => (isBl r.1).map fun b => (.bl (!b), r.2)
  | .and a b => fun ρ st => (evE c a ρ st).bind fun r => (isBl r.1).bind fun k => if k then evE c b ρ r.2 else some (.bl false, r.2)
  | .or a b => fun ρ st => (evE c a ρ st).bind fun r => (isBl r.1).bind fun k => if k then some (.bl true, r.2) else evE c b ρ r.2
  | .ite t a b => fun ρ st => (evE c t ρ st).bind fun r => (isBl r.1).bind fun k => if k then evE c a ρ r.2 else evE c b ρ r.2
  | .cmp op a b => fun ρ st => (evE c a ρ st).bind fun r => (evE c b ρ r.2).bind fun q => (cmpD op (rd q.2 r.1) (rd q.2 q.1)).map fun k => (.bl k, q.2)
  | .chain op op' a b e => fun ρ st => (evE c a ρ st).bind fun r => (evE c b ρ r.2).bind fun q => (cmpD op (rd q.2 r.1) (rd q.2 q.1)).bind fun k =>
      if k then (evE c e ρ q.2).bind fun s => (cmpD op' (rd s.2 q.1) (rd s.2 s.1)).map fun k' => (.bl k', s.2) else some (.bl false, q.2)
  | .call f es => fun ρ st => (evEs c es ρ st).bind fun r => c.call f r.1 r.2
  | .prim p es => fun ρ st => (evEs c es ρ st).bind fun r => (primD p (r.1.map (rdR r.2))).map fun d => (d, r.2)
  | .primB p es => fun ρ st => (evEs c es ρ st).bind fun r => (primD p (r.1.map (rdR r.2))).bind fun d => new true d r.2
  | .sub a i => fun ρ st => (evE c a ρ st).bind fun r => (evE c i ρ r.2).bind fun q => (subD (rdR q.2 r.1) q.1).map fun d => (d, q.2)
  | .dsub a i => fun ρ st => (evE c a ρ st).bind fun r => (evE c i ρ r.2).bind fun q => (dsubD (rd q.2 r.1) q.1).map fun d => (d, q.2)
  | .din neg k a => fun ρ st => (evE c k ρ st).bind fun r => (evE c a ρ r.2).bind fun q => (dinD (rd q.2 q.1) r.1).map fun b => (.bl (b != neg), q.2)
  | .cut a lo hi => fun ρ st => (evE c a ρ st).bind fun r => (evO c lo ρ r.2).bind fun l => (evO c hi ρ l.2).bind fun h => match rd h.2 r.1 with
    | .lst ds => some (.lst (cutD ds l.1 h.1), h.2)
    | .tup ds => some (.tup (cutD ds l.1 h.1), h.2)
    | _ => none
  | .rev a => fun ρ st => (evE c a ρ st).bind fun r => match rd r.2 r.1 with
    | .lst ds => some (.lst ds.reverse, r.2)
    | .tup ds => some (.tup ds.reverse, r.2)
    | _ => none
  | .catB a b => fun ρ st => (evE c a ρ st).bind fun r => (evE c b ρ r.2).bind fun q => match rd q.2 r.1, rd q.2 q.1 with
    | .lst xs, .lst ys => if xs.length + ys.length ≤ LIM then new true (.lst (xs ++ ys)) q.2 else none
    | _, _ => none
  | .lrng1 a => fun ρ st => (evE c a ρ st).bind fun r => match r.1 with
    | .int j => if j ≤ 1000 then (rngD 0 j).map fun ds => (.lst ds, r.2) else none
    | _ => none
  | .lrng2 a b => fun ρ st => (evE c a ρ st).bind fun r => (evE c b ρ r.2).bind fun q => match r.1, q.1 with
    | .int i, .int j => if j - i ≤ 1000 then (rngD i j).map fun ds => (.lst ds, q.2) else none
    | _, _ => none
  | .append o e => fun ρ st => (evE c o ρ st).bind fun r => if isLB r.1 r.2 then (evE c e ρ r.2).bind fun q => appendD c.base r.1 q.1 q.2 else none
  | .pop o => fun ρ st => (evE c o ρ st).bind fun r => popD r.1 r.2
  | .get1 o k => fun ρ st => (evE c o ρ st).bind fun r => if isDct (rd r.2 r.1) then (evE c k ρ r.2).bind fun q => (getD1 (rd q.2 r.1) q.1).map fun d => (d, q.2) else none
  | .get2 o k x => fun ρ st => (evE c o ρ st).bind fun r => if isDct (rd r.2 r.1) then (evE c k ρ r.2).bind fun q => (evE c x ρ q.2).bind fun s => (getD2 (rd s.2 r.1) q.1 s.1).map fun d => (d, s.2) else none
  | .comp own e t it g => fun ρ st => (evI c it ρ st).bind fun w => match w.1.2 with
    | none => (walkL (fun d acc st => (bindT t d (wipeE ρ own)).bind fun ρ' =>
      (evG c g ρ' st).bind fun k => if k.1 then (evE c e ρ' k.2).bind fun q => if acc.length < LIM then some (acc ++ [q.1], q.2) else none else some (acc, k.2)) w.1.1 [] w.2).map fun q => (.lst q.1, q.2)
    | some _ => none
  | .dcomp b tk own k v t it g => fun ρ st => (evI c it ρ st).bind fun w => match w.1.2 with
    | none => (walkL (fun d acc st => (bindT t d (wipeE ρ own)).bind fun ρ' =>
      (evG c g ρ' st).bind fun z => if z.1 then (evE c k ρ' z.2).bind fun q => (evE c v ρ' q.2).bind fun s =>
        if keyFits tk q.1 && decide (acc.1.length < LIM) then some (dput acc.1 acc.2 q.1 s.1, s.2) else none else some (acc, z.2)) w.1.1 (([], []) : List D × List D) w.2).bind fun q =>
      new b (.dct tk q.1.1 q.1.2) q.2
    | some _ => none
  | .dcp j a v => fun ρ st => (evE c a ρ st).bind fun r => match r.1 with
    | .box n => match r.2[n]? with
      | some (.dct t ks _) => if t && (decide (j < ρ.length) && decide (ks.length < LIM)) then new true (.dct true ks (ks.map fun _ => .bl v)) r.2 else none
      | _ => none
    | _ => none
  | .frz e => fun ρ st => (evE c e ρ st).bind fun r => frzD c.base r.1 r.2
def evEs (c : Ctx) : List E → Env → M (List D)
  | [] => fun _ st => some ([], st)
  | e :: es => fun ρ st => (evE c e ρ st).bind fun r => (evEs c es ρ r.2).map fun q => (r.1 :: q.1, q.2)
def evPs (c : Ctx) : KVs → Env → M (List (D × D))
  | .nil => fun _ st => some ([], st)
  | .cons k v kvs => fun ρ st => (evE c k ρ st).bind fun r => (evE c v ρ r.2).bind fun q => (evPs c kvs ρ q.2).map fun s => ((r.1, q.1) :: s.1, s.2)
def evO (c : Ctx) : Option E → Env → M (Option Int)
  | none => fun _ st => some (none, st)
  | some e => fun ρ st => (evE c e ρ st).bind fun r => match r.1 with
    | .int i => some (some i, r.2)
    | _ => none
/-- a comprehension's test -/
def evG (c : Ctx) : Option E → Env → M Bool
  | none => fun _ st => some (true, st)
  | some e => fun ρ st => (evE c e ρ st).bind fun r => (isBl r.1).map fun b => (b, r.2)
/-- the items that are walked, and the dict's box that is locked meanwhile -/
def evI (c : Ctx) : I → Env → M (List D × Option Nat)
  | .seq e => fun ρ st => (evE c e ρ st).bind fun r => (seqD r.1).map fun ds => ((ds, none), r.2)
  | .keys e => fun ρ st => (evE c e ρ st).bind fun r => match r.1 with
    | .dct t ks _ => some ((ks, none), r.2)
    | _ => none
  | .items e => fun ρ st => (evE c e ρ st).bind fun r => match r.1 with
    | .dct t ks vs => if t then some (((ks.zip vs).map fun p => .tup [p.1, p.2], none), r.2) else none
    | _ => none
  | .rng1 a => fun ρ st => (evE c a ρ st).bind fun r => match r.1 with
    | .int j => (rngD 0 j).map fun ds => ((ds, none), r.2)
    | _ => none
  | .rng2 a b => fun ρ st => (evE c a ρ st).bind fun r => (evE c b ρ r.2).bind fun q => match r.1, q.1 with
    | .int i, .int j => (rngD i j).map fun ds => ((ds, none), q.2)
    | _, _ => none
  | .zip a b => fun ρ st => (evE c a ρ st).bind fun r => (evE c b ρ r.2).bind fun q => (zipD r.1 q.1).map fun ds => ((ds, none), q.2)
  | .enum e => fun ρ st => (evE c e ρ st).bind fun r => (seqD r.1).map fun ds => ((enumD ds, none), r.2)
end

def evC (c : Ctx) (e : E) (ρ : Env) : M Bool := fun st => (evE c e ρ st).bind fun r => (isBl r.1).map fun b => (b, r.2)
mutual
def evS (c : Ctx) : S → Env → M Fl
  | .asg t e => fun ρ st => (evE c e ρ st).bind fun r => (bindT t r.1 ρ).map fun ρ' => (.nx ρ', r.2)
  | .setI o i e => fun ρ st => (evE c e ρ st).bind fun r => (evE c o ρ r.2).bind fun q => (evE c i ρ q.2).bind fun s => (setL c.base q.1 s.1 r.1 s.2).map fun st' => (.nx ρ, st')
  | .setK o i e => fun ρ st => (evE c e ρ st).bind fun r => (evE c o ρ r.2).bind fun q => (evE c i ρ q.2).bind fun s => (setK c.base q.1 s.1 r.1 s.2).map fun st' => (.nx ρ, st')
  | .expr e => fun ρ st => (evE c e ρ st).map fun r => (.nx ρ, r.2)
  | .ret e => fun ρ st => (evE c e ρ st).map fun r => (.rt r.1, r.2)
  | .ite t a b => fun ρ st => (evC c t ρ st).bind fun r => if r.1 then evSs c a ρ r.2 else evSs c b ρ r.2
  | .whl t b => fun ρ st => whileF (evC c t) (evSs c b) c.fuel ρ st
  | .for_ t it b => fun ρ st => (evI c it ρ st).bind fun w => match w.1.2 with
    | none => walkF (fun d ρ st => (bindT t d ρ).bind fun ρ' => evSs c b ρ' st) w.1.1 ρ w.2
    | some _ => none
  | .pass => fun ρ st => some (.nx ρ, st)
  | .raise => fun _ _ => none
def evSs (c : Ctx) : List S → Env → M Fl
  | [] => fun ρ st => some (.nx ρ, st)
  | s :: ss => fun ρ st => (evS c s ρ st).bind fun r => match r.1 with
    | .nx ρ' => evSs c ss ρ' r.2
    | f => some (f, r.2)
end

/-- a def: how many parameters, how many names, its body -/
structure Fn where
  np : Nat
  ns : Nat
  body : List S
/-- behind a call its own objects are gone, but one that it hands back -/
def retv (base : Nat) (d₀ : D) (st : Store) : Option (D × Store) := match d₀ with
  | .box n => if n < base then some (D.box n, st.take base) else match st[n]? with
    | some b => if b.under base && (match b with | .lst _ | .dct _ _ _ => true | _ => false) then some (D.box base, st.take base ++ [b]) else none
    | none => none
  | d => if D.under base d = true then some (d, st.take base) else none
def evCall (T : Nat → Option Fn) (fuel : Nat) : Nat → Nat → List D → M D
  | 0 => fun _ _ _ => none
  | k + 1 => fun f ds st => (T f).bind fun fn => if ds.length = fn.np then
      (evSs ⟨evCall T fuel k, st.length, fuel⟩ fn.body (ds.map some ++ List.replicate (fn.ns - fn.np) none) st).bind fun r => match r.1 with
        | .rt d => retv st.length d r.2
        | .nx _ => some (.non, r.2.take st.length)
        | .bk _ => none
    else none
end Ev

namespace Ev
open PySem PySem.Spec PyProof.Rows L2
mutual
/-- the key that data are -/
def nk : D → NestedKey
  | .bl b => .num (if b then 1 else 0)
  | .int i => .num i
  | .str x => .text x
  | .tup ds => .tup (nks ds)
  | _ => .none
def nks : List D → List NestedKey
  | [] => []
  | d :: ds => nk d :: nks ds
end
mutual
def noT : NestedKey → Bool
  | .text _ => false
  | .tup ks => noTs ks
  | _ => true
def noTs : List NestedKey → Bool
  | [] => true
  | k :: ks => noT k && noTs ks
end
mutual
theorem hash_noT (w w' : World) : ∀ k : NestedKey, noT k = true → NestedKey.hash w k = NestedKey.hash w' k
  | .none, _ | .num _, _ => by simp [NestedKey.hash]
  | .text _, h => by simp [noT] at h
  | .tup ks, h => by
    simp only [noT] at h
    simp only [NestedKey.hash, hashes_noT w w' ks h]
theorem hashes_noT (w w' : World) : ∀ ks : List NestedKey, noTs ks = true → NestedKey.hashes w ks = NestedKey.hashes w' ks
  | [], _ => by simp [NestedKey.hashes]
  | k :: ks, h => by
    simp only [noTs, Bool.and_eq_true] at h
    simp only [NestedKey.hashes, hash_noT w w' k h.1, hashes_noT w w' ks h.2]
end
mutual
theorem nk_noT : ∀ (n : Nat) (d : D), tkey n d = true → noT (nk d) = true
  | _, .non, _ | _, .bl _, _ | _, .int _, _ => by simp [nk, noT]
  | 0, .tup _, h => by simp [tkey] at h
  | n + 1, .tup ds, h => by
    simp only [tkey] at h
    simp only [nk, noT]
    exact nks_noT n ds h
  | _, .str _, h | _, .lst _, h | _, .dct _ _ _, h | _, .box _, h | _, .ro _, h => by simp [tkey] at h
theorem nks_noT : ∀ (n : Nat) (ds : List D), tkeys n ds = true → noTs (nks ds) = true
  | _, [], _ => rfl
  | n, d :: ds, h => by
    simp only [tkeys, Bool.and_eq_true] at h
    simp only [nks, noTs, nk_noT n d h.1, nks_noT n ds h.2, Bool.and_self]
end
mutual
theorem nk_depth : ∀ (n : Nat) (d : D), tkey n d = true → (nk d).depth ≤ n
  | _, .non, _ | _, .bl _, _ | _, .int _, _ => by simp [nk, NestedKey.depth]
  | 0, .tup _, h => by simp [tkey] at h
  | n + 1, .tup ds, h => by
    simp only [tkey] at h
    have := nks_depth n ds h
    simp only [nk, NestedKey.depth]
    omega
  | _, .str _, h | _, .lst _, h | _, .dct _ _ _, h | _, .box _, h | _, .ro _, h => by simp [tkey] at h
theorem nks_depth : ∀ (n : Nat) (ds : List D), tkeys n ds = true → NestedKey.depthAll (nks ds) ≤ n
  | _, [], _ => by simp [nks, NestedKey.depthAll]
  | n, d :: ds, h => by
    simp only [tkeys, Bool.and_eq_true] at h
    have h1 := nk_depth n d h.1
    have h2 := nks_depth n ds h.2
    simp only [nks, NestedKey.depthAll]
    omega
end
theorem bool_num (a b : Bool) : (a == b) = decide ((if a then (1 : Int) else 0) = if b then 1 else 0) := by cases a <;> cases b <;> rfl
mutual
/-- == of data is == of keys -/
theorem eqv_nk : ∀ (m n : Nat) (a b : D), tkey m a = true → tkey n b = true → D.eqv a b = NestedKey.beq (nk a) (nk b)
  | _, _, .str _, _, h, _ | _, _, .lst _, _, h, _ | _, _, .dct _ _ _, _, h, _ | _, _, .box _, _, h, _ | _, _, .ro _, _, h, _ => by simp [tkey] at h
  | _, _, .non, b, _, h => by cases b <;> first | (simp [tkey] at h; done) | simp [nk, NestedKey.beq, D.eqv]
  | _, _, .bl x, b, _, h => by
    cases b with
    | bl y => simp only [nk, NestedKey.beq, D.eqv]; exact bool_num x y
    | int j => simp only [nk, NestedKey.beq, D.eqv]; rfl
    | _ => first | (simp [tkey] at h; done) | simp [nk, NestedKey.beq, D.eqv]
  | _, _, .int i, b, _, h => by
    cases b with
    | bl y => simp only [nk, NestedKey.beq, D.eqv]; rfl
    | int j => simp only [nk, NestedKey.beq, D.eqv]; rfl
    | _ => first | (simp [tkey] at h; done) | simp [nk, NestedKey.beq, D.eqv]
  | 0, _, .tup _, _, h, _ => by simp [tkey] at h
  | m + 1, n, .tup xs, b, h, h' => by
    cases b with
    | tup ys =>
      cases n with
      | zero => simp [tkey] at h'
      | succ n =>
        simp only [tkey] at h h'
        simp only [nk, NestedKey.beq, D.eqv]
        exact eqvs_nk m n xs ys h h'
    | _ => first | (simp [tkey] at h'; done) | simp [nk, NestedKey.beq, D.eqv]
theorem eqvs_nk : ∀ (m n : Nat) (xs ys : List D), tkeys m xs = true → tkeys n ys = true → D.eqvs xs ys = NestedKey.beqAll (nks xs) (nks ys)
  | _, _, [], [], _, _ => by simp [nks, NestedKey.beqAll, D.eqvs]
  | _, _, [], _ :: _, _, _ => by simp [nks, NestedKey.beqAll, D.eqvs]
  | _, _, _ :: _, [], _, _ => by simp [nks, NestedKey.beqAll, D.eqvs]
  | m, n, x :: xs, y :: ys, h, h' => by
    simp only [tkeys, Bool.and_eq_true] at h h'
    simp only [nks, NestedKey.beqAll, D.eqvs]
    rw [eqv_nk m n x y h.1 h'.1, eqvs_nk m n xs ys h.2 h'.2]
end
theorem tkey_of {k : D} (h : keyT k = true) : tkey 8 k = true := by
  cases k <;> simp [keyT] at h
  simp only [tkey]; exact h
theorem eqv_dec {a b : D} (ha : keyT a = true) (hb : keyT b = true) : D.eqv a b = decide (nk a = nk b) := by
  rw [NestedKey.decide_eq]
  exact eqv_nk 8 8 a b (tkey_of ha) (tkey_of hb)
def keysT (ks : List D) : Bool := ks.all keyT

/-- an entry: the key, where its tuple stands, the value -/
abbrev NEn (α : Type) := NestedKey × Addr × α
def nput {α : Type} (xs : List (NEn α)) (i : Option Nat) (k : NestedKey) (a : Addr) (v : α) : List (NEn α) := match i with
  | some i => match xs[i]? with
    | some x => xs.set i (x.1, x.2.1, v)
    | none => xs
  | none => xs ++ [(k, a, v)]
theorem nks_len : ∀ ds : List D, (nks ds).length = ds.length
  | [] => rfl
  | d :: ds => by simp [nks, nks_len ds]
/-- where a key stands -/
theorem kfind_nk {α : Type} {k : D} (hk : keyT k = true) : ∀ (ks : List D) (xs : List (NEn α)), keysT ks = true → xs.map (·.1) = nks ks →
    (∃ i x, kfind ks k = some i ∧ i < ks.length ∧ xs[i]? = some x ∧ x.1 = nk k ∧ (∀ j y, j < i → xs[j]? = some y → y.1 ≠ nk k)) ∨ (kfind ks k = none ∧ ∀ x ∈ xs, x.1 ≠ nk k)
  | [], [], _, _ => .inr ⟨rfl, fun x hx => nomatch hx⟩
  | [], _ :: _, _, e => by simp [nks] at e
  | _ :: _, [], _, e => by simp [nks] at e
  | d :: ds, x :: xs, h, e => by
    simp only [keysT, List.all_cons, Bool.and_eq_true] at h
    simp only [List.map_cons, nks, List.cons.injEq] at e
    by_cases z : D.eqv d k = true
    · refine .inl ⟨0, x, by simp [kfind, z], by simp, rfl, ?_, fun j y hj => by omega⟩
      rw [eqv_dec h.1 hk] at z
      rw [e.1]; exact of_decide_eq_true z
    · have zf : D.eqv d k = false := by simpa using z
      have hne : x.1 ≠ nk k := fun q => by
        rw [eqv_dec h.1 hk, ← e.1, q] at zf
        simp at zf
      have ek : kfind (d :: ds) k = (kfind ds k).map (· + 1) := by simp [kfind, zf]
      rcases kfind_nk hk ds xs h.2 e.2 with ⟨i, y, a1, a2, a3, a4, a5⟩ | ⟨a1, a2⟩
      · refine .inl ⟨i + 1, y, by rw [ek, a1]; rfl, by simpa using a2, by simpa using a3, a4, fun j u hj hu => ?_⟩
        cases j with
        | zero => simp at hu; rw [← hu]; exact hne
        | succ j => exact a5 j u (by omega) (by simpa using hu)
      · refine .inr ⟨by rw [ek, a1]; rfl, fun u hu => ?_⟩
        rcases List.mem_cons.mp hu with rfl | hu
        · exact hne
        · exact a2 u hu
theorem kfind_lt {ks : List D} {k : D} {i : Nat} : kfind ks k = some i → i < ks.length := by
  induction ks generalizing i with
  | nil => intro h; simp [kfind] at h
  | cons d ds ih =>
    intro h
    simp only [kfind] at h
    split at h
    · cases h; simp
    · cases q : kfind ds k with
      | none => rw [q] at h; cases h
      | some j => rw [q] at h; cases h; simpa using ih q
section
variable {ks : List D} {k : D} {ys : List (NestedKey × Addr × Value)}
theorem atKey_find (hk : keyT k = true) (h : keysT ks = true) (e : ys.map (·.1) = nks ks) (nd : (ys.map (·.1)).Nodup) :
    (∃ i y, kfind ks k = some i ∧ ys[i]? = some y ∧ atKey ys (nk k) = some y.2) ∨ (kfind ks k = none ∧ atKey ys (nk k) = none) := by
  rcases kfind_nk hk ks ys h e with ⟨i, y, a1, a2, a3, a4, _⟩ | ⟨a1, a2⟩
  · obtain ⟨y1, y2⟩ := y
    simp only at a4
    subst a4
    exact .inl ⟨i, _, a1, a3, atKey_of_get nd a3⟩
  · refine .inr ⟨a1, ?_⟩
    refine atKey_none_of_get fun j p hj => ?_
    exact a2 _ (List.mem_of_getElem? hj) rfl
theorem map_putAt_set {k : NestedKey} {v : Value} : ∀ {ys : List (NestedKey × Addr × Value)} {i : Nat} {y : NestedKey × Addr × Value}, (ys.map (·.1)).Nodup → ys[i]? = some y → y.1 = k → ys.map (putAt k v) = ys.set i (y.1, y.2.1, v)
  | [], i, y, _, h, _ => by simp at h
  | u :: us, 0, y, nd, h, e => by
    simp only [List.length_cons, Nat.zero_lt_succ, List.getElem?_cons_zero, Option.some.injEq] at h
    subst h
    simp only [List.map_cons, List.nodup_cons] at nd
    rw [List.map_cons, List.set_cons_zero]
    congr 1
    · unfold putAt; rw [if_pos e]
    · rw [e] at nd
      exact map_putAt_of_not_mem us k v nd.1
  | u :: us, i + 1, y, nd, h, e => by
    simp only [List.map_cons, List.nodup_cons] at nd
    simp only [List.getElem?_cons_succ] at h
    rw [List.map_cons, List.set_cons_succ, map_putAt_set nd.2 h e]
    congr 1
    unfold putAt
    rw [if_neg]
    intro z
    exact nd.1 (by rw [z, ← e]; exact List.mem_map_of_mem (List.mem_of_getElem? h))
theorem storedH_nput {a : Addr} {v : Value} (hk : keyT k = true) (h : keysT ks = true) (e : ys.map (·.1) = nks ks) (nd : (ys.map (·.1)).Nodup) : storedH ys (nk k) a v = nput ys (kfind ks k) (nk k) a v := by
  rcases kfind_nk hk ks ys h e with ⟨i, y, a1, a2, a3, a4, _⟩ | ⟨a1, a2⟩
  · have e2 : atKey ys (nk k) = some y.2 := by
      obtain ⟨y1, y2⟩ := y
      simp only at a4
      subst a4
      exact atKey_of_get nd a3
    rw [storedH_old e2, map_putAt_set nd a3 a4, a1]
    simp [nput, a3]
  · have e2 : atKey ys (nk k) = none := atKey_none_of_get fun j p hj => a2 _ (List.mem_of_getElem? hj) rfl
    rw [storedH_new e2, a1]
    rfl
end
/-- behind a store: the keys as data -/
theorem nput_keys {α : Type} {ks vs : List D} {k w : D} {xs : List (NEn α)} {a : Addr} {v : α} (h : xs.map (·.1) = nks ks) : (nput xs (kfind ks k) (nk k) a v).map (·.1) = nks (dput ks vs k w).1 := by
  have ap : ∀ l : List D, nks (l ++ [k]) = nks l ++ [nk k] := fun l => by
    induction l with
    | nil => rfl
    | cons d ds ih => simp [nks, ih]
  unfold nput dput
  cases q : kfind ks k with
  | none => simp only [List.map_append, h, ap]; rfl
  | some i =>
    simp only
    cases hx : xs[i]? with
    | none => exact h
    | some x =>
      simp only
      rw [← h]
      apply List.ext_getElem?
      intro j
      rw [List.getElem?_map, List.getElem?_map]
      by_cases z : i = j
      · subst z
        have hl := (List.getElem?_eq_some_iff.mp hx).1
        rw [List.getElem?_set_self hl, hx]
        rfl
      · rw [List.getElem?_set_ne z]
theorem nks_append : ∀ l m : List D, nks (l ++ m) = nks l ++ nks m
  | [], _ => rfl
  | d :: ds, m => by simp [nks, nks_append ds m]
theorem dput_nodup {ks vs : List D} {k w : D} (hk : keyT k = true) (ho : keysT ks = true) (nd : (nks ks).Nodup) : (nks (dput ks vs k w).1).Nodup := by
  unfold dput
  rcases kfind_nk (α := Unit) hk ks ((nks ks).map fun n => (n, 0, ())) ho (by rw [List.map_map]; simp [Function.comp_def]) with ⟨i, x, a1, _⟩ | ⟨a1, a2⟩
  · rw [a1]; exact nd
  · rw [a1]
    simp only [nks_append]
    rw [List.nodup_append]
    refine ⟨nd, by simp [nks], fun x hx y hy z => ?_⟩
    have e : y = nk k := by simpa [nks] using hy
    exact a2 (x, 0, ()) (List.mem_map_of_mem hx) (z.trans e)
def Twin : List (NEn V) → List (NEn Value) → Prop := Paired fun p q => p.1 = q.1 ∧ p.2.1 = q.2.1 ∧ RelV p.2.2 q.2.2
/-- at a stands a dict with the entries xs -/
def DNok (a : Addr) (xs : List (NEn V)) (h : Heap) : Prop :=
  (a == sysModules) = false ∧ xs.length ≤ sizeLine ∧ (∀ x ∈ xs, noT x.1 = true) ∧ ∃ (P : Program) (w : World) (ys : List (NEn Value)), Twin xs ys ∧ (ys.map (·.1)).Nodup ∧
    ∃ (o : Obj) (es : Array DictEntry) (ep : Nat), h.get? a = some o ∧ o.ExactDict ∧ o.data = .dict es ep ∧ es.toList = ys.map (entryOfKey (nestedKind P w))
def DNo (a : Addr) (xs : List (NEn V)) : HO := .ext (DNok a xs)
theorem Twin.len {xs : List (NEn V)} {ys : List (NEn Value)} (t : Twin xs ys) : xs.length = ys.length := Paired.length t
theorem Twin.keys {xs : List (NEn V)} {ys : List (NEn Value)} (t : Twin xs ys) : ys.map (·.1) = xs.map (·.1) := by
  unfold Twin at t
  induction t with
  | nil => rfl
  | cons h _ ih => rw [List.map_cons, List.map_cons, ih, h.1]
theorem Twin.get {xs : List (NEn V)} {ys : List (NEn Value)} (t : Twin xs ys) : ∀ {i : Nat} {x : NEn V}, xs[i]? = some x → ∃ y, ys[i]? = some y ∧ x.1 = y.1 ∧ x.2.1 = y.2.1 ∧ RelV x.2.2 y.2.2 := by
  unfold Twin at t
  induction t with
  | nil => intro i x e; simp at e
  | @cons p q _ _ h _ ih =>
    intro i x e
    cases i with
    | zero => simp at e; subst e; exact ⟨q, rfl, h⟩
    | succ i => exact ih (by simpa using e)
theorem Twin.getR {xs : List (NEn V)} {ys : List (NEn Value)} (t : Twin xs ys) : ∀ {i : Nat} {y : NEn Value}, ys[i]? = some y → ∃ x, xs[i]? = some x ∧ x.1 = y.1 ∧ x.2.1 = y.2.1 ∧ RelV x.2.2 y.2.2 := by
  unfold Twin at t
  induction t with
  | nil => intro i x e; simp at e
  | @cons p q _ _ h _ ih =>
    intro i x e
    cases i with
    | zero => simp at e; subst e; exact ⟨p, rfl, h⟩
    | succ i => exact ih (by simpa using e)
theorem Twin.set {x : NEn V} {y : NEn Value} (h : x.1 = y.1 ∧ x.2.1 = y.2.1 ∧ RelV x.2.2 y.2.2) : ∀ {xs : List (NEn V)} {ys : List (NEn Value)} (i : Nat), Twin xs ys → Twin (xs.set i x) (ys.set i y)
  | _, _, _, .nil => .nil
  | _, _, 0, .cons _ t => .cons h t
  | _, _, i + 1, .cons q t => .cons q (Twin.set h i t)
theorem Twin.snoc {x : NEn V} {y : NEn Value} (h : x.1 = y.1 ∧ x.2.1 = y.2.1 ∧ RelV x.2.2 y.2.2) : ∀ {xs : List (NEn V)} {ys : List (NEn Value)}, Twin xs ys → Twin (xs ++ [x]) (ys ++ [y])
  | _, _, .nil => .cons h .nil
  | _, _, .cons q t => .cons q (Twin.snoc h t)
theorem Twin.put {xs : List (NEn V)} {ys : List (NEn Value)} {k : NestedKey} {a : Addr} {v : V} {u : Value} (t : Twin xs ys) (r : RelV v u) (i : Option Nat) : Twin (nput xs i k a v) (nput ys i k a u) := by
  unfold nput
  cases i with
  | none => exact t.snoc ⟨rfl, rfl, r⟩
  | some i =>
    simp only
    cases hx : xs[i]? with
    | none =>
      have : ys[i]? = none := by
        have := List.getElem?_eq_none_iff.mp hx
        exact List.getElem?_eq_none_iff.mpr (by rw [← t.len]; exact this)
      rw [this]; exact t
    | some x =>
      obtain ⟨y, hy, e1, e2, _⟩ := t.get hx
      rw [hy]
      exact t.set (x := (x.1, x.2.1, v)) (y := (y.1, y.2.1, u)) ⟨e1, e2, r⟩ i
theorem nput_len {α : Type} {xs : List (NEn α)} {i : Option Nat} {k : NestedKey} {a : Addr} {v : α} : (nput xs i k a v).length ≤ xs.length + 1 := by
  unfold nput
  cases i with
  | none => simp
  | some i => simp only; cases xs[i]? <;> simp
theorem nput_mem {α : Type} {xs : List (NEn α)} {i : Option Nat} {k : NestedKey} {a : Addr} {v : α} {x : NEn α} (h : x ∈ nput xs i k a v) : (∃ y ∈ xs, y.1 = x.1 ∧ y.2.1 = x.2.1) ∨ (x.1 = k ∧ x.2.1 = a) := by
  unfold nput at h
  cases i with
  | none =>
    rcases List.mem_append.mp h with h | h
    · exact .inl ⟨x, h, rfl, rfl⟩
    · have e : x = (k, a, v) := by simpa using h
      subst e; exact .inr ⟨rfl, rfl⟩
  | some i =>
    simp only at h
    cases hx : xs[i]? with
    | none => rw [hx] at h; exact .inl ⟨x, h, rfl, rfl⟩
    | some y =>
      rw [hx] at h
      rcases List.mem_or_eq_of_mem_set h with h | h
      · exact .inl ⟨x, h, rfl, rfl⟩
      · subst h; exact .inl ⟨y, List.mem_of_getElem? hx, rfl, rfl⟩
theorem dn_obj {P : Program} {w : World} {H : Hp} {h : Heap} {a : Addr} {xs : List (NEn V)} (q : DNok a xs h) : ObjOk P w H h a (DNo a xs) := by
  obtain ⟨_, _, _, _, _, _, _, _, o, _, _, ho, _⟩ := id q
  exact ⟨q, ⟨o, ho⟩, fun h1 h2 p k => by
    obtain ⟨b1, b2, b3, P', w', ys, r, nd, o', es, ep, g1, g2⟩ := p
    exact ⟨b1, b2, b3, P', w', ys, r, nd, o', es, ep, k _ g1, g2⟩⟩
theorem dn_new (P : Program) (w : World) {a : Addr} (h : Heap) (hs : a = h.objs.size) (hb : sysModules < h.objs.size) : DNok a [] (h.push { cls := .type "dict", data := .dict #[] }) := by
  subst hs
  exact ⟨beq_eq_false_iff_ne.mpr (Nat.ne_of_gt hb), Nat.zero_le _, fun x hx => (nomatch hx), ⟨P, w, [], .nil, List.nodup_nil, _, #[], 0, Heap.get?_push_size _ rfl, ⟨rfl, rfl, rfl⟩, rfl, rfl⟩⟩
theorem entry_any {P P' : Program} {w w' : World} {y : NEn Value} (h : noT y.1 = true) : entryOfKey (nestedKind P w) y = entryOfKey (nestedKind P' w') y := by
  show (⟨NestedKey.hash w y.1, _, _⟩ : DictEntry) = ⟨NestedKey.hash w' y.1, _, _⟩
  rw [hash_noT w w' _ h]
/-- the keys' tuples stand -/
def KeysIn (h : Heap) (xs : List (NEn V)) : Prop := ∀ x ∈ xs, NestedIs h x.1 (.ref x.2.1) ∧ x.1.depth ≤ 8
theorem dn_raw {P : Program} {w : World} {h : Heap} {a : Addr} {xs : List (NEn V)} (q : DNok a xs h) (hk : KeysIn h xs) : (a == sysModules) = false ∧ xs.length ≤ sizeLine ∧ ∃ ys, Twin xs ys ∧ h.DictOfH (nestedKind P w) a ys := by
  obtain ⟨b1, b2, b3, P', w', ys, r, nd, o, es, ep, g1, g2, g3, g4⟩ := q
  refine ⟨b1, b2, ys, r, o, es, ep, g1, g2, g3, ?_, fun y hy => ?_, nd⟩
  · rw [g4]
    refine List.map_congr_left fun y hy => ?_
    obtain ⟨i, hi⟩ := List.getElem?_of_mem hy
    obtain ⟨x, hx, e1, _⟩ := r.getR hi
    exact entry_any (by rw [← e1]; exact b3 x (List.mem_of_getElem? hx))
  · obtain ⟨i, hi⟩ := List.getElem?_of_mem hy
    obtain ⟨x, hx, e1, e2, _⟩ := r.getR hi
    have := hk x (List.mem_of_getElem? hx)
    rw [e1, e2] at this
    exact this
theorem dn_back {P : Program} {w : World} {h : Heap} {a : Addr} {xs : List (NEn V)} {ys : List (NEn Value)} (b1 : (a == sysModules) = false) (b2 : xs.length ≤ sizeLine) (b3 : ∀ x ∈ xs, noT x.1 = true) (t : Twin xs ys) (d : h.DictOfH (nestedKind P w) a ys) : DNok a xs h := by
  obtain ⟨o, es, ep, g1, g2, g3, g4, _, nd⟩ := d
  exact ⟨b1, b2, b3, P, w, ys, t, nd, o, es, ep, g1, g2, g3, g4⟩
end Ev

namespace Ev
open PySem PySem.Spec PyProof.Rows L2

/-- a dict's object at a, its keys and its values, the keys as data -/
inductive DU : Addr → Bool → HO → List V → List V → List D → Prop
  | k {a : Addr} {ks : List D} (xs : List (Str × V)) (nd : (xs.map (·.1)).Nodup) : DU a false (.dK (xs.map fun p => (Sum.inr p.1, p.2))) (xs.map fun p => .str p.1) (xs.map (·.2)) ks
  | t {a : Addr} {ks : List D} (xs : List (NEn V)) (hk : xs.map (·.1) = nks ks) (ht : keysT ks = true) (nd : (nks ks).Nodup) : DU a true (DNo a xs) (xs.map fun x => .ref x.2.1) (xs.map fun x => x.2.2) ks
mutual
inductive Dat (K : PySem.W.Frag) (F : Hp) (sa : List Addr) : V → D → Prop
  | non : Dat K F sa .non .non
  | bl (b : Bool) : Dat K F sa (.bl b) (.bl b)
  | int (i : Int) : Dat K F sa (.int i) (.int i)
  | str (x : Str) : Dat K F sa (.str x) (.str x)
  | tup {a : Addr} {vs : List V} {ds : List D} : SqT K F a vs → Dats K F sa vs ds → Dat K F sa (.ref a) (.tup ds)
  | lst {a : Addr} {vs : List V} {ds : List D} : F a = some (.lst vs) → Dats K F sa vs ds → Dat K F sa (.ref a) (.lst ds)
  | dct {a : Addr} {o : Obj} {u : HO} {kv vv : List V} {t : Bool} {ks vs : List D} : F a = some (.frz o u) → DU a t u kv vv ks → Dats K F sa kv ks → Dats K F sa vv vs → Dat K F sa (.ref a) (.dct t ks vs)
  | box {n : Nat} {a : Addr} : sa[n]? = some a → Dat K F sa (.ref a) (.box n)
  | ro {a : Addr} {vs : List V} {ds : List D} : SqL K F a vs → Dats K F sa vs ds → Dat K F sa (.ref a) (.ro ds)
inductive Dats (K : PySem.W.Frag) (F : Hp) (sa : List Addr) : List V → List D → Prop
  | nil : Dats K F sa [] []
  | cons {v : V} {d : D} {vs : List V} {ds : List D} : Dat K F sa v d → Dats K F sa vs ds → Dats K F sa (v :: vs) (d :: ds)
end
def Sub (F F' : Hp) : Prop := ∀ a o, F a = some o → F' a = some o
theorem Sub.refl (F : Hp) : Sub F F := fun _ _ h => h
theorem Sub.trans {F G H : Hp} (a : Sub F G) (b : Sub G H) : Sub F H := fun x o h => b x o (a x o h)
def Pre (sa sa' : List Addr) : Prop := ∃ more, sa' = sa ++ more
theorem Pre.refl (s : List Addr) : Pre s s := ⟨[], by simp⟩
theorem Pre.trans {a b c : List Addr} (h : Pre a b) (h' : Pre b c) : Pre a c := by
  obtain ⟨x, rfl⟩ := h; obtain ⟨y, rfl⟩ := h'; exact ⟨x ++ y, by simp⟩
theorem Pre.get {sa sa' : List Addr} (h : Pre sa sa') {n : Nat} {a : Addr} (e : sa[n]? = some a) : sa'[n]? = some a := by
  obtain ⟨x, rfl⟩ := h
  rw [List.getElem?_append_left]
  · exact e
  · exact (List.getElem?_eq_some_iff.mp e).1
theorem Pre.mem {sa sa' : List Addr} (h : Pre sa sa') {a : Addr} (e : a ∈ sa) : a ∈ sa' := by
  obtain ⟨x, rfl⟩ := h; exact List.mem_append_left _ e
section
variable {K : PySem.W.Frag} {F F' H : Hp} {sa sa' : List Addr}
theorem rd_sub {a : Addr} {u : HO} (h : Sub F F') (r : Rd F a u) : Rd F' a u := by
  rcases r with r | ⟨o, r⟩
  · exact .inl (h _ _ r)
  · exact .inr ⟨o, h _ _ r⟩
theorem sqt_sub {a : Addr} {vs : List V} (h : Sub F F') (r : SqT K F a vs) : SqT K F' a vs := r.imp (rd_sub h) id
theorem sql_sub {a : Addr} {vs : List V} (h : Sub F F') (r : SqL K F a vs) : SqL K F' a vs := r.imp (rd_sub h) id
mutual
theorem Dat.mono (h : Sub F F') (p : Pre sa sa') : ∀ {v : V} {d : D}, Dat K F sa v d → Dat K F' sa' v d
  | _, _, .non => .non
  | _, _, .bl b => .bl b
  | _, _, .int i => .int i
  | _, _, .str x => .str x
  | _, _, .tup q r => .tup (sqt_sub h q) (Dats.mono h p r)
  | _, _, .lst q r => .lst (h _ _ q) (Dats.mono h p r)
  | _, _, .dct q u r s => .dct (h _ _ q) u (Dats.mono h p r) (Dats.mono h p s)
  | _, _, .box e => .box (p.get e)
  | _, _, .ro q r => .ro (sql_sub h q) (Dats.mono h p r)
theorem Dats.mono (h : Sub F F') (p : Pre sa sa') : ∀ {vs : List V} {ds : List D}, Dats K F sa vs ds → Dats K F' sa' vs ds
  | _, _, .nil => .nil
  | _, _, .cons q r => .cons (Dat.mono h p q) (Dats.mono h p r)
end
theorem Dats.length : ∀ {vs : List V} {ds : List D}, Dats K F sa vs ds → vs.length = ds.length
  | _, _, .nil => rfl
  | _, _, .cons _ r => by simp [Dats.length r]
theorem Dats.get : ∀ {vs : List V} {ds : List D} {i : Nat} {d : D}, Dats K F sa vs ds → ds[i]? = some d → ∃ v, vs[i]? = some v ∧ Dat K F sa v d
  | _, _, _, _, .nil, e => by simp at e
  | _, _, 0, _, .cons q _, e => by simp at e; subst e; exact ⟨_, rfl, q⟩
  | _, _, i + 1, _, .cons _ r, e => by
    obtain ⟨v, h1, h2⟩ := Dats.get (i := i) r (by simpa using e)
    exact ⟨v, by simpa using h1, h2⟩
theorem Dats.getV : ∀ {vs : List V} {ds : List D} {i : Nat} {v : V}, Dats K F sa vs ds → vs[i]? = some v → ∃ d, ds[i]? = some d ∧ Dat K F sa v d
  | _, _, _, _, .nil, e => by simp at e
  | _, _, 0, _, .cons q _, e => by simp at e; subst e; exact ⟨_, rfl, q⟩
  | _, _, i + 1, _, .cons _ r, e => by
    obtain ⟨v, h1, h2⟩ := Dats.getV (i := i) r (by simpa using e)
    exact ⟨v, by simpa using h1, h2⟩
theorem Dats.append : ∀ {vs ws : List V} {ds es : List D}, Dats K F sa vs ds → Dats K F sa ws es → Dats K F sa (vs ++ ws) (ds ++ es)
  | _, _, _, _, .nil, s => s
  | _, _, _, _, .cons q r, s => .cons q (Dats.append r s)
theorem Dats.one {v : V} {d : D} (h : Dat K F sa v d) : Dats K F sa [v] [d] := .cons h .nil
theorem Dats.set {v : V} {d : D} (h : Dat K F sa v d) : ∀ {vs : List V} {ds : List D} (i : Nat), Dats K F sa vs ds → Dats K F sa (vs.set i v) (ds.set i d)
  | _, _, _, .nil => .nil
  | _, _, 0, .cons _ r => .cons h r
  | _, _, i + 1, .cons q r => .cons q (Dats.set h i r)
theorem Dats.take : ∀ {vs : List V} {ds : List D} (n : Nat), Dats K F sa vs ds → Dats K F sa (vs.take n) (ds.take n)
  | _, _, 0, _ => .nil
  | _, _, _ + 1, .nil => .nil
  | _, _, n + 1, .cons q r => .cons q (Dats.take n r)
theorem Dats.drop : ∀ {vs : List V} {ds : List D} (n : Nat), Dats K F sa vs ds → Dats K F sa (vs.drop n) (ds.drop n)
  | _, _, 0, r => r
  | _, _, _ + 1, .nil => .nil
  | _, _, n + 1, .cons _ r => Dats.drop n r
theorem Dats.reverse : ∀ {vs : List V} {ds : List D}, Dats K F sa vs ds → Dats K F sa vs.reverse ds.reverse
  | _, _, .nil => .nil
  | _, _, .cons q r => by rw [List.reverse_cons, List.reverse_cons]; exact (Dats.reverse r).append (.one q)
theorem Dats.rep {vs : List V} {ds : List D} (h : Dats K F sa vs ds) : ∀ k : Nat, Dats K F sa (List.replicate k vs).flatten (List.replicate k ds).flatten
  | 0 => .nil
  | k + 1 => by
    rw [List.replicate_succ, List.replicate_succ, List.flatten_cons, List.flatten_cons]
    exact h.append (Dats.rep h k)
theorem Dats.dropLast {vs : List V} {ds : List D} (h : Dats K F sa vs ds) : Dats K F sa vs.dropLast ds.dropLast := by
  rw [List.dropLast_eq_take, List.dropLast_eq_take, h.length]; exact h.take _
theorem Dats.nil_iff {vs : List V} {ds : List D} (h : Dats K F sa vs ds) : vs = [] ↔ ds = [] := by
  cases h <;> simp
mutual
/-- all references are to the first n -/
theorem Dat.cut {n : Nat} : ∀ {v : V} {d : D}, Dat K F sa v d → D.under n d = true → Dat K F (sa.take n) v d
  | _, _, .non, _ => .non
  | _, _, .bl b, _ => .bl b
  | _, _, .int i, _ => .int i
  | _, _, .str x, _ => .str x
  | _, _, .tup q r, h => .tup q (Dats.cut r (by simpa [D.under] using h))
  | _, _, .lst q r, h => .lst q (Dats.cut r (by simpa [D.under] using h))
  | _, _, .dct q u r s, h => by
    simp only [D.under, Bool.and_eq_true] at h
    exact .dct q u (Dats.cut r h.1) (Dats.cut s h.2)
  | _, _, .box (n := m) e, h => .box (by
    simp only [D.under, decide_eq_true_eq] at h
    rw [List.getElem?_take, if_pos h]; exact e)
  | _, _, .ro q r, h => .ro q (Dats.cut r (by simpa [D.under] using h))
theorem Dats.cut {n : Nat} : ∀ {vs : List V} {ds : List D}, Dats K F sa vs ds → D.unders n ds = true → Dats K F (sa.take n) vs ds
  | _, _, .nil, _ => .nil
  | _, _, .cons q r, h => by
    simp only [D.unders, Bool.and_eq_true] at h
    exact .cons (Dat.cut q h.1) (Dats.cut r h.2)
end
mutual
theorem Dat.under : ∀ {v : V} {d : D}, Dat K F sa v d → D.under sa.length d = true
  | _, _, .non | _, _, .bl _ | _, _, .int _ | _, _, .str _ => by simp [D.under]
  | _, _, .tup _ r | _, _, .lst _ r | _, _, .ro _ r => by simp only [D.under]; exact Dats.under r
  | _, _, .dct _ _ r s => by simp only [D.under, Bool.and_eq_true]; exact ⟨Dats.under r, Dats.under s⟩
  | _, _, .box e => by simp only [D.under, decide_eq_true_eq]; exact (List.getElem?_eq_some_iff.mp e).1
theorem Dats.under : ∀ {vs : List V} {ds : List D}, Dats K F sa vs ds → D.unders sa.length ds = true
  | _, _, .nil => rfl
  | _, _, .cons q r => by simp only [D.unders, Bool.and_eq_true]; exact ⟨Dat.under q, Dats.under r⟩
end
mutual
theorem under_mono {m n : Nat} (h : m ≤ n) : ∀ d : D, D.under m d = true → D.under n d = true
  | .non, _ | .bl _, _ | .int _, _ | .str _, _ => by simp [D.under]
  | .tup ds, q | .lst ds, q | .ro ds, q => by simp only [D.under] at q ⊢; exact unders_mono h ds q
  | .dct t ks vs, q => by simp only [D.under, Bool.and_eq_true] at q ⊢; exact ⟨unders_mono h ks q.1, unders_mono h vs q.2⟩
  | .box k, q => by simp only [D.under, decide_eq_true_eq] at q ⊢; omega
theorem unders_mono {m n : Nat} (h : m ≤ n) : ∀ ds : List D, D.unders m ds = true → D.unders n ds = true
  | [], _ => rfl
  | d :: ds, q => by simp only [D.unders, Bool.and_eq_true] at q ⊢; exact ⟨under_mono h d q.1, unders_mono h ds q.2⟩
end
theorem unders_append {n : Nat} : ∀ xs ys : List D, D.unders n (xs ++ ys) = (D.unders n xs && D.unders n ys)
  | [], ys => by simp [D.unders]
  | x :: xs, ys => by simp [D.unders, unders_append xs ys, Bool.and_assoc]
end

/-- what stands at a box's address -/
def BoxAt (K : PySem.W.Frag) (F : Hp) (sa : List Addr) (H : Hp) (a : Addr) : B → Prop
  | .lst ds => ∃ vs, H a = some (.lst vs) ∧ Dats K F sa vs ds
  | .dct t ks vs => ∃ u kv vv, H a = some u ∧ DU a t u kv vv ks ∧ Dats K F sa kv ks ∧ Dats K F sa vv vs
  | .lk t ks vs => ∃ o u kv vv, H a = some (.frz o u) ∧ DU a t u kv vv ks ∧ Dats K F sa kv ks ∧ Dats K F sa vv vs
  | .dead => True
def OldOk (m : Nat) (st : Store) : Prop := ∀ (n : Nat) (b : B), n < m → st[n]? = some b → b.under m = true
structure Wd (K : PySem.W.Frag) (base : Nat) (F : Hp) (sa : List Addr) (st : Store) (H : Hp) : Prop where
  sub : Sub F H
  len : sa.length = st.length
  nd : sa.Nodup
  out : ∀ (n : Nat) (a : Addr) (b : B), sa[n]? = some a → st[n]? = some b → b ≠ B.dead → F a = none
  there : ∀ a ∈ sa, H a ≠ none
  box : ∀ (n : Nat) (a : Addr) (b : B), sa[n]? = some a → st[n]? = some b → BoxAt K F sa H a b
  old : OldOk base st
  le : base ≤ st.length
structure Ext (base : Nat) (F : Hp) (sa : List Addr) (st : Store) (H F' : Hp) (sa' : List Addr) (st' : Store) (H' : Hp) : Prop where
  sub : Sub F F'
  pre : Pre sa sa'
  fr : ∀ a o, H a = some o → a ∉ sa → H' a = some o
  new : ∀ a, a ∈ sa' → a ∉ sa → H a = none
  old : ∀ m, m ≤ base → OldOk m st → OldOk m st'
  fz : ∀ a o, F' a = some o → F a = some o ∨ H a = none ∨ a ∈ sa
theorem Ext.refl {base : Nat} {F : Hp} {sa : List Addr} {st : Store} {H : Hp} : Ext base F sa st H F sa st H := ⟨.refl _, .refl _, fun _ _ h _ => h, fun _ h h' => absurd h h', fun _ _ h => h, fun _ _ h => .inl h⟩
theorem Ext.trans {base : Nat} {F F1 F2 H H1 H2 : Hp} {sa sa1 sa2 : List Addr} {st st1 st2 : Store} (a : Ext base F sa st H F1 sa1 st1 H1) (b : Ext base F1 sa1 st1 H1 F2 sa2 st2 H2) : Ext base F sa st H F2 sa2 st2 H2 where
  sub := a.sub.trans b.sub
  pre := a.pre.trans b.pre
  fr := fun x o h n => b.fr x o (a.fr x o h n) fun z => by
    have := a.new x z n
    rw [h] at this; cases this
  new := fun x h n => by
    by_cases z : x ∈ sa1
    · exact a.new x z n
    · cases q : H x with
      | none => rfl
      | some o =>
        have := b.new x h z
        rw [a.fr x o q n] at this; cases this
  old := fun m hm h => b.old m hm (a.old m hm h)
  fz := fun x o h => by
    by_cases hx : x ∈ sa
    · exact .inr (.inr hx)
    · rcases b.fz x o h with z | z | z
      · exact a.fz x o z
      · refine .inr (.inl ?_)
        cases q : H x with
        | none => rfl
        | some u => rw [a.fr x u q hx] at z; cases z
      · exact .inr (.inl (a.new x z hx))
/-- the frame's places -/
structure Rho (K : PySem.W.Frag) (F : Hp) (sa : List Addr) (σ : L2.St) (ρ : Env) : Prop where
  len : ρ.length = σ.length
  at_ : ∀ (i : Nat) (d : D), ρ[i]? = some (some d) → ∃ v, σ[i]? = some (some v) ∧ Dat K F sa v d
section
variable {K : PySem.W.Frag} {F F' H : Hp} {sa sa' : List Addr} {σ : L2.St} {ρ : Env}
theorem Rho.mono (r : Rho K F sa σ ρ) (h : Sub F F') (p : Pre sa sa') : Rho K F' sa' σ ρ := ⟨r.len, fun i d e => let ⟨v, a, b⟩ := r.at_ i d e; ⟨v, a, b.mono h p⟩⟩
theorem Rho.set (r : Rho K F sa σ ρ) {i : Nat} {v : V} {d : D} (h : Dat K F sa v d) : Rho K F sa (σ.set i (some v)) (ρ.set i (some d)) := by
  refine ⟨by simp [r.len], fun j d' e => ?_⟩
  by_cases hj : i = j
  · subst hj
    rw [List.getElem?_set] at e
    split at e
    · split at e
      · cases e
        exact ⟨v, by rw [List.getElem?_set, if_pos rfl, if_pos (by rw [← r.len]; assumption)], h⟩
      · cases e
    · rename_i z; exact absurd rfl z
  · rw [List.getElem?_set_ne hj] at e
    obtain ⟨v', a, b⟩ := r.at_ j d' e
    exact ⟨v', by rw [List.getElem?_set_ne hj]; exact a, b⟩
theorem Rho.wipe (r : Rho K F sa σ ρ) : ∀ vs : List Nat, Rho K F sa (L2.wipe σ vs) (wipeE ρ vs)
  | [] => r
  | v :: vs => by
    have ih := Rho.wipe r vs
    unfold L2.wipe wipeE
    refine ⟨by simp [ih.len], fun j d' e => ?_⟩
    by_cases hj : v = j
    · subst hj
      rw [List.getElem?_set] at e
      split at e
      · split at e <;> cases e
      · rename_i z; exact absurd rfl z
    · rw [List.getElem?_set_ne hj] at e
      obtain ⟨v', a, b⟩ := ih.at_ j d' e
      exact ⟨v', by rw [List.getElem?_set_ne hj]; exact a, b⟩
end
end Ev

namespace Ev
open PySem PySem.Spec PyProof.Rows L2
section
variable {K : PySem.W.Frag} {base : Nat} {F F' H H' : Hp} {sa sa' : List Addr} {st st' : Store} {p a : Addr} {o : HO} {b : B}
theorem sql_at {vs : List V} (h : H' a = H a) (r : SqL K H a vs) : SqL K H' a vs := by
  rcases r with (r | ⟨o, r⟩) | r
  · exact .inl (.inl (by rw [h]; exact r))
  · exact .inl (.inr ⟨o, by rw [h]; exact r⟩)
  · exact .inr r
theorem BoxAt.stable (hF : Sub F F') (hp : Pre sa sa') (h : H' a = H a) (x : BoxAt K F sa H a b) : BoxAt K F' sa' H' a b := by
  cases b with
  | lst ds => obtain ⟨vs, e, q⟩ := x; exact ⟨vs, by rw [h]; exact e, q.mono hF hp⟩
  | dct t ks vs => obtain ⟨u, kv, vv, e, d, q, r⟩ := x; exact ⟨u, kv, vv, by rw [h]; exact e, d, q.mono hF hp, r.mono hF hp⟩
  | lk t ks vs => obtain ⟨o, u, kv, vv, e, d, q, r⟩ := x; exact ⟨o, u, kv, vv, by rw [h]; exact e, d, q.mono hF hp, r.mono hF hp⟩
  | dead => trivial
theorem Wd.notin (W : Wd K base F sa st H) (hp : H p = none) : p ∉ sa := fun z => W.there p z hp
theorem Wd.ne (W : Wd K base F sa st H) (hp : H p = none) {x : Addr} (h : x ∈ sa) : x ≠ p := fun z => W.there x h (by rw [z]; exact hp)
theorem Wd.fnone (W : Wd K base F sa st H) (hp : H p = none) : F p = none := by
  cases q : F p with
  | none => rfl
  | some o => have := W.sub p o q; rw [hp] at this; cases this
theorem sub_upd (h : F p = none) : Sub F (upd F p o) := fun x u e => by rw [upd_ne (ne_of_none e h)]; exact e
theorem Wd.junk (W : Wd K base F sa st H) (hp : H p = none) : Wd K base F sa st (upd H p o) where
  sub := W.sub.trans (sub_upd hp)
  len := W.len
  nd := W.nd
  out := W.out
  there := fun x h => by rw [upd_ne (W.ne hp h)]; exact W.there x h
  box := fun n x c h1 h2 => (W.box n x c h1 h2).stable (.refl _) (.refl _) (upd_ne (W.ne hp (List.mem_of_getElem? h1)))
  old := W.old
  le := W.le
theorem Ext.junk (hp : H p = none) : Ext base F sa st H F sa st (upd H p o) := ⟨.refl _, .refl _, fun x u e _ => by rw [upd_ne (ne_of_none e hp)]; exact e, fun _ h h' => absurd h h', fun _ _ h => h, fun _ _ h => .inl h⟩
theorem fz_upd (hp : H p = none) : ∀ a u, upd F p o a = some u → F a = some u ∨ H a = none ∨ a ∈ sa := fun x u e => by
  by_cases z : x = p
  · rw [z]; exact .inr (.inl hp)
  · rw [upd_ne z] at e; exact .inl e
theorem Wd.frozen (W : Wd K base F sa st H) (hp : H p = none) : Wd K base (upd F p o) sa st (upd H p o) where
  sub := fun x u e => by
    by_cases h : x = p
    · subst h; rw [upd_same] at e ⊢; exact e
    · rw [upd_ne h] at e ⊢; exact W.sub x u e
  len := W.len
  nd := W.nd
  out := fun n x c h1 h2 h3 => by rw [upd_ne (W.ne hp (List.mem_of_getElem? h1))]; exact W.out n x c h1 h2 h3
  there := fun x h => by rw [upd_ne (W.ne hp h)]; exact W.there x h
  box := fun n x c h1 h2 => (W.box n x c h1 h2).stable (sub_upd (W.fnone hp)) (.refl _) (upd_ne (W.ne hp (List.mem_of_getElem? h1)))
  old := W.old
  le := W.le
theorem Ext.frozen (W : Wd K base F sa st H) (hp : H p = none) : Ext base F sa st H (upd F p o) sa st (upd H p o) :=
  ⟨sub_upd (W.fnone hp), .refl _, fun x u e _ => by rw [upd_ne (ne_of_none e hp)]; exact e, fun _ h h' => absurd h h', fun _ _ h => h, fz_upd hp⟩
theorem nodup_snoc {l : List Addr} (h : l.Nodup) (hn : p ∉ l) : (l ++ [p]).Nodup := by
  rw [List.nodup_append]
  refine ⟨h, by simp, fun x hx y hy => ?_⟩
  have e : y = p := by simpa using hy
  subst e
  exact fun z => hn (z ▸ hx)
theorem OldOk.snoc {m : Nat} (h : OldOk m st) (hm : m ≤ st.length) : OldOk m (st ++ [b]) := fun n c hn e => by
  rw [List.getElem?_append_left (by omega)] at e
  exact h n c hn e
theorem Wd.boxed (W : Wd K base F sa st H) (hp : H p = none) (hb : BoxAt K F sa (upd H p o) p b) (hd : b ≠ .dead) : Wd K base F (sa ++ [p]) (st ++ [b]) (upd H p o) where
  sub := W.sub.trans (sub_upd hp)
  len := by simp [W.len]
  nd := nodup_snoc W.nd (W.notin hp)
  out := fun n x c h1 h2 h3 => by
    by_cases hn : n < sa.length
    · rw [List.getElem?_append_left hn] at h1
      rw [List.getElem?_append_left (by rw [← W.len]; exact hn)] at h2
      exact W.out n x c h1 h2 h3
    · have e : n = sa.length := by
        have := (List.getElem?_eq_some_iff.mp h1).1
        simp at this; omega
      subst e
      simp at h1
      subst h1
      exact W.fnone hp
  there := fun x h => by
    rcases List.mem_append.mp h with h | h
    · rw [upd_ne (W.ne hp h)]; exact W.there x h
    · have e : x = p := by simpa using h
      subst e
      rw [upd_same]; exact fun z => nomatch z
  box := fun n x c h1 h2 => by
    by_cases hn : n < sa.length
    · rw [List.getElem?_append_left hn] at h1
      rw [List.getElem?_append_left (by rw [← W.len]; exact hn)] at h2
      exact (W.box n x c h1 h2).stable (.refl _) ⟨_, rfl⟩ (upd_ne (W.ne hp (List.mem_of_getElem? h1)))
    · have e : n = sa.length := by
        have := (List.getElem?_eq_some_iff.mp h1).1
        simp at this; omega
      subst e
      simp at h1
      rw [W.len] at h2
      simp at h2
      subst h1 h2
      exact hb.stable (.refl _) ⟨_, rfl⟩ rfl
  old := W.old.snoc W.le
  le := by simp; have := W.le; omega
theorem Ext.boxed (W : Wd K base F sa st H) (hp : H p = none) : Ext base F sa st H F (sa ++ [p]) (st ++ [b]) (upd H p o) :=
  ⟨.refl _, ⟨_, rfl⟩, fun x u e _ => by rw [upd_ne (ne_of_none e hp)]; exact e, fun x h h' => by
    rcases List.mem_append.mp h with h | h
    · exact absurd h h'
    · have e : x = p := by simpa using h
      rw [e]; exact hp, fun m hm h => h.snoc (Nat.le_trans hm W.le), fun _ _ h => .inl h⟩

/-- what is wanted of a value d behind the store st' -/
def Out (K : PySem.W.Frag) (base : Nat) (F : Hp) (sa : List Addr) (st : Store) (H : Hp) (st' : Store) (d : D) (Q : VK) : Prop :=
  ∀ v F' sa' H', Wd K base F' sa' st' H' → Ext base F sa st H F' sa' st' H' → Dat K F' sa' v d → Q v H'
theorem Out.same {v : V} {d : D} {Q : VK} (O : Out K base F sa st H st d Q) (W : Wd K base F sa st H) (h : Dat K F sa v d) : Q v H := O v F sa H W .refl h
theorem Out.lst {vs : List V} {ds : List D} {Q : VK} (O : Out K base F sa st H st (.lst ds) Q) (W : Wd K base F sa st H) (h : Dats K F sa vs ds) : ∀ p, H p = none → Q (.ref p) (upd H p (.lst vs)) := fun p hp =>
  O _ (upd F p (.lst vs)) sa _ (W.frozen hp) (.frozen W hp) (.lst upd_same (h.mono (sub_upd (W.fnone hp)) (.refl _)))
theorem Out.tup {vs : List V} {ds : List D} {Q : VK} (O : Out K base F sa st H st (.tup ds) Q) (W : Wd K base F sa st H) (h : Dats K F sa vs ds) : ∀ p, H p = none → Q (.ref p) (upd H p (.tup vs)) := fun p hp =>
  O _ (upd F p (.tup vs)) sa _ (W.frozen hp) (.frozen W hp) (.tup (.of upd_same) (h.mono (sub_upd (W.fnone hp)) (.refl _)))
theorem Out.newlst {vs : List V} {ds : List D} {Q : VK} {f : Bool} {d : D} (O : Out K base F sa st H st' d Q) (e : new f (.lst ds) st = some (d, st')) (W : Wd K base F sa st H) (h : Dats K F sa vs ds) : ∀ p, H p = none → Q (.ref p) (upd H p (.lst vs)) := fun p hp => by
  cases f with
  | false =>
    simp only [new, Bool.false_eq_true, if_false, Option.some.injEq, Prod.mk.injEq] at e
    obtain ⟨e1, e2⟩ := e
    subst e1 e2
    exact O.lst W h p hp
  | true =>
    simp only [new, if_true, Option.some.injEq, Prod.mk.injEq] at e
    obtain ⟨e1, e2⟩ := e
    subst e1 e2
    refine O _ F (sa ++ [p]) _ (W.boxed hp ⟨vs, upd_same, h⟩ (fun z => nomatch z)) (.boxed W hp) (.box ?_)
    rw [← W.len]; simp
theorem Out.from {F1 H1 : Hp} {sa1 : List Addr} {st1 : Store} {d : D} {Q : VK} (O : Out K base F sa st H st' d Q) (E : Ext base F sa st H F1 sa1 st1 H1) : Out K base F1 sa1 st1 H1 st' d Q := fun v F' sa' H' W' E' h => O v F' sa' H' W' (E.trans E') h

/-- what stands where data are read -/
inductive Rds (K : PySem.W.Frag) (F : Hp) (sa : List Addr) (H : Hp) : V → D → Prop
  | non : Rds K F sa H .non .non
  | bl (b : Bool) : Rds K F sa H (.bl b) (.bl b)
  | int (i : Int) : Rds K F sa H (.int i) (.int i)
  | str (x : Str) : Rds K F sa H (.str x) (.str x)
  | tup {a : Addr} {vs : List V} {ds : List D} : SqT K F a vs → Dats K F sa vs ds → Rds K F sa H (.ref a) (.tup ds)
  | lst {a : Addr} {vs : List V} {ds : List D} : H a = some (.lst vs) → Dats K F sa vs ds → Rds K F sa H (.ref a) (.lst ds)
  | dct {a : Addr} {u : HO} {kv vv : List V} {t : Bool} {ks vs : List D} : Rd H a u → DU a t u kv vv ks → Dats K F sa kv ks → Dats K F sa vv vs → Rds K F sa H (.ref a) (.dct t ks vs)
  | box {n : Nat} {a : Addr} : sa[n]? = some a → Rds K F sa H (.ref a) (.box n)
  | ro {a : Addr} {ds : List D} : Rds K F sa H (.ref a) (.ro ds)
inductive RdsR (K : PySem.W.Frag) (F : Hp) (sa : List Addr) (H : Hp) : V → D → Prop
  | non : RdsR K F sa H .non .non
  | bl (b : Bool) : RdsR K F sa H (.bl b) (.bl b)
  | int (i : Int) : RdsR K F sa H (.int i) (.int i)
  | str (x : Str) : RdsR K F sa H (.str x) (.str x)
  | tup {a : Addr} {vs : List V} {ds : List D} : SqT K F a vs → Dats K F sa vs ds → RdsR K F sa H (.ref a) (.tup ds)
  | lst {a : Addr} {vs : List V} {ds : List D} : SqL K H a vs → Dats K F sa vs ds → RdsR K F sa H (.ref a) (.lst ds)
  | dct {a : Addr} {u : HO} {kv vv : List V} {t : Bool} {ks vs : List D} : Rd H a u → DU a t u kv vv ks → Dats K F sa kv ks → Dats K F sa vv vs → RdsR K F sa H (.ref a) (.dct t ks vs)
  | box {n : Nat} {a : Addr} : sa[n]? = some a → RdsR K F sa H (.ref a) (.box n)
theorem rd_ok {v : V} {d : D} (W : Wd K base F sa st H) (q : Dat K F sa v d) : Rds K F sa H v (rd st d) := by
  cases q with
  | non => exact .non
  | bl b => exact .bl b
  | int i => exact .int i
  | str x => exact .str x
  | tup h r => exact .tup h r
  | lst h r => exact .lst (W.sub _ _ h) r
  | dct h u r s => exact .dct (.inr ⟨_, W.sub _ _ h⟩) u r s
  | ro h r => exact .ro
  | @box n a h =>
    have hl : n < st.length := by rw [← W.len]; exact (List.getElem?_eq_some_iff.mp h).1
    have B := W.box n a st[n] h (List.getElem?_eq_getElem hl)
    simp only [rd, List.getElem?_eq_getElem hl]
    generalize st[n] = c at B
    cases c with
    | lst ds => obtain ⟨vs, e, r⟩ := B; exact .lst e r
    | dct t ks vs => obtain ⟨u, kv, vv, e, d, r, s⟩ := B; exact .dct (.inl e) d r s
    | lk t ks vs => obtain ⟨o, u, kv, vv, e, d, r, s⟩ := B; exact .dct (.inr ⟨o, e⟩) d r s
    | dead => exact .box h
theorem Rds.toR {v : V} {d : D} (r : Rds K F sa H v d) (hz : ∀ ds, d ≠ .ro ds) : RdsR K F sa H v d := by
  cases r with
  | non => exact .non
  | bl b => exact .bl b
  | int i => exact .int i
  | str x => exact .str x
  | tup h r => exact .tup h r
  | lst h r => exact .lst (.of h) r
  | dct h u r s => exact .dct h u r s
  | box h => exact .box h
  | ro => exact absurd rfl (hz _)
theorem rd_ro {d : D} {ds : List D} (h : rd st d = .ro ds) : d = .ro ds := by
  cases d with
  | box n =>
    simp only [rd] at h
    split at h <;> cases h
  | _ => exact h
theorem rdR_ok {v : V} {d : D} (W : Wd K base F sa st H) (q : Dat K F sa v d) : RdsR K F sa H v (rdR st d) := by
  cases hd : d with
  | ro ds =>
    subst hd
    cases q with
    | ro h r => exact .lst (sql_sub W.sub h) r
  | _ =>
    have r := rd_ok W q
    rw [hd] at r
    refine r.toR fun ds z => ?_
    have := rd_ro z
    cases this

theorem lim_line {n : Nat} (h : n ≤ LIM) : n ≤ sizeLine := by rw [sizeLine_eq]; unfold LIM at h; omega
def rAddStr : R2 := fun x y H Q => ∃ i j, x = .str i ∧ y = .str j ∧ i.length + j.length ≤ sizeLine ∧ Q (.str (i ++ j)) H
def rBin (K : PySem.W.Frag) : Op → R2
  | .add => fun x y H Q => (rI0 fun i j => .int (i + j)) x y H Q ∨ rCat x y H Q ∨ rCatA K x y H Q ∨ rAddStr x y H Q
  | .sub => rI0 fun i j => .int (i - j)
  | .mul => fun x y H Q => (rI CMul fun i j => .int (i * j)) x y H Q ∨ rRep x y H Q ∨ rRepT K x y H Q ∨ rRepS K x y H Q
  | .fdiv => rI CDiv fun i j => .int (i / j)
  | .mod => rI (fun _ j => 0 < j) fun i j => .int (i % j)
  | .pow => rI CPow fun i j => .int (i ^ j.toNat)
def opOf : Op → Operator
  | .add => .Add | .sub => .Sub | .mul => .Mult | .fdiv => .FloorDiv | .mod => .Mod | .pow => .Pow
theorem op_ok {X : Cx} (o : Op) : OpR X (binaryOp (opOf o)) (rBin X.K o) := by
  cases o with
  | add => exact op_add.or (op_cat.or (op_catA.or op_add_str))
  | sub => exact op_sub
  | mul => exact op_mul.or (op_rep.or (op_repT.or op_repS))
  | fdiv => exact op_fdiv
  | mod => exact op_mod
  | pow => exact op_pow
theorem bin_ok {o : Op} {v1 v2 : V} {x y d : D} {Q : VK} (W : Wd K base F sa st H) (r1 : Rds K F sa H v1 x) (r2 : Rds K F sa H v2 y) (h : binD o x y = some d) (O : Out K base F sa st H st d Q) : rBin K o v1 v2 H Q := by
  cases o with
  | add =>
    cases r1 <;> cases r2 <;> try (simp [binD] at h; done)
    · simp only [binD, Option.some.injEq] at h
      subst h
      exact .inl ⟨_, _, rfl, rfl, O.same W (.int _)⟩
    · simp only [binD, Option.ite_none_right_eq_some, Option.some.injEq] at h
      obtain ⟨h, rfl⟩ := h
      exact .inr (.inr (.inr ⟨_, _, rfl, rfl, lim_line h, O.same W (.str _)⟩))
    · rename_i a vs ds h1 q1 a' vs' ds' h2 q2
      simp only [binD, Option.ite_none_right_eq_some, Option.some.injEq] at h
      obtain ⟨h, rfl⟩ := h
      refine .inr (.inr (.inl ⟨_, _, _, _, rfl, rfl, sqt_sub W.sub h1, sqt_sub W.sub h2, by rw [q1.length, q2.length]; exact lim_line h, fun e => ?_, fun e e' => ?_, fun e e' => ?_⟩))
      · subst e
        cases q1
        exact O.same W (.tup h2 q2)
      · subst e'
        cases q2
        rw [List.append_nil] at O
        exact O.same W (.tup h1 q1)
      · exact O.tup W (q1.append q2)
    · rename_i a vs ds h1 q1 a' vs' ds' h2 q2
      simp only [binD, Option.ite_none_right_eq_some, Option.some.injEq] at h
      obtain ⟨h, rfl⟩ := h
      exact .inr (.inl ⟨_, _, _, _, rfl, rfl, h1, h2, by rw [q1.length, q2.length]; exact lim_line h, O.lst W (q1.append q2)⟩)
  | sub =>
    cases r1 <;> cases r2 <;> try (simp [binD] at h; done)
    simp only [binD, Option.some.injEq] at h
    subst h
    exact ⟨_, _, rfl, rfl, O.same W (.int _)⟩
  | mul =>
    cases r1 <;> cases r2 <;> try (simp [binD] at h; done)
    · simp only [binD, Option.ite_none_right_eq_some, Option.some.injEq] at h
      obtain ⟨h, rfl⟩ := h
      exact .inl ⟨_, _, rfl, rfl, h, O.same W (.int _)⟩
    · rename_i a vs ds h1 q1 i
      simp only [binD] at h
      by_cases hz : 1 ≤ i ∧ i ≤ 1000 ∧ (i = 1 ∨ ds = [])
      · rw [if_pos hz] at h
        cases h
        exact .inr (.inr (.inr ⟨_, _, _, rfl, rfl, sqt_sub W.sub h1, hz.1, hz.2.1, hz.2.2.imp id fun z => q1.nil_iff.mpr z, O.same W (.tup h1 q1)⟩))
      · rw [if_neg hz] at h
        simp only [Option.ite_none_right_eq_some, Option.some.injEq] at h
        obtain ⟨⟨h3, h4, h5, h6⟩, rfl⟩ := h
        refine .inr (.inr (.inl ⟨_, _, _, rfl, rfl, sqt_sub W.sub h1, fun z => h5 (q1.nil_iff.mp z), h3, h4, by rw [q1.length]; exact h6, O.tup W (q1.rep _)⟩))
    · rename_i a vs ds h1 q1 i
      simp only [binD, Option.ite_none_right_eq_some, Option.some.injEq] at h
      obtain ⟨⟨h3, h4, h5⟩, rfl⟩ := h
      refine .inr (.inl ⟨_, _, _, rfl, rfl, h1, by omega, by omega, ?_, O.lst W (q1.rep _)⟩)
      rw [q1.length, sizeLine_eq]
      have h6 : i.toNat ≤ 1000 := by omega
      exact Nat.le_trans (Nat.mul_le_mul h5 h6) (by decide)
  | fdiv =>
    cases r1 <;> cases r2 <;> try (simp [binD] at h; done)
    simp only [binD, Option.ite_none_right_eq_some, Option.some.injEq] at h
    obtain ⟨h, rfl⟩ := h
    exact ⟨_, _, rfl, rfl, h, O.same W (.int _)⟩
  | mod =>
    cases r1 <;> cases r2 <;> try (simp [binD] at h; done)
    simp only [binD, Option.ite_none_right_eq_some, Option.some.injEq] at h
    obtain ⟨h, rfl⟩ := h
    exact ⟨_, _, rfl, rfl, h, O.same W (.int _)⟩
  | pow =>
    cases r1 <;> cases r2 <;> try (simp [binD] at h; done)
    simp only [binD, Option.ite_none_right_eq_some, Option.some.injEq] at h
    obtain ⟨h, rfl⟩ := h
    exact ⟨_, _, rfl, rfl, h, O.same W (.int _)⟩
end
end Ev

namespace Ev
open PySem PySem.Spec PyProof.Rows L2

mutual
def toPD : D → PyData
  | .non => .none
  | .bl b => .bool b
  | .int i => .int i
  | .str x => .str x
  | .tup ds => .tuple (toPDs ds)
  | .lst ds => .list (toPDs ds)
  | .dct _ _ _ | .box _ | .ro _ => .none
def toPDs : List D → List PyData
  | [] => []
  | d :: ds => toPD d :: toPDs ds
end
mutual
theorem pl_lay : ∀ (n : Nat) (d : D), D.pl n d = true → PyData.canLay0 (toPD d) = true ∧ PyData.depth (toPD d) ≤ n
  | _, .non, _ | _, .bl _, _ | _, .int _, _ => by simp [toPD, PyData.canLay0, PyData.depth]
  | _, .str x, h => by
    simp only [D.pl] at h
    simp only [toPD, PyData.canLay0, PyData.depth]
    exact ⟨h, Nat.zero_le _⟩
  | 0, .tup _, h | 0, .lst _, h | _, .dct _ _ _, h | _, .box _, h | _, .ro _, h => by simp [D.pl] at h
  | n + 1, .tup ds, h | n + 1, .lst ds, h => by
    simp only [D.pl] at h
    have := pls_lay n ds h
    simp only [toPD, PyData.canLay0, PyData.depth]
    exact ⟨this.1, by omega⟩
theorem pls_lay : ∀ (n : Nat) (ds : List D), D.pls n ds = true → PyData.canLayAll0 (toPDs ds) = true ∧ PyData.depthAll (toPDs ds) ≤ n
  | _, [], _ => by simp [toPDs, PyData.canLayAll0, PyData.depthAll]
  | n, d :: ds, h => by
    simp only [D.pls, Bool.and_eq_true] at h
    have h1 := pl_lay n d h.1
    have h2 := pls_lay n ds h.2
    simp only [toPDs, PyData.canLayAll0, PyData.depthAll, Bool.and_eq_true]
    exact ⟨⟨h1.1, h2.1⟩, by omega⟩
end
theorem pl_shaped {d : D} (h : D.pl 8 d = true) : SeqAt.shaped (toPD d) = true := by
  have := pl_lay 8 d h
  show ((toPD d).canLay0 && decide ((toPD d).depth ≤ 64)) = true
  rw [Bool.and_eq_true]
  exact ⟨this.1, decide_eq_true (by omega)⟩
theorem pls_shaped {ds : List D} (h : D.pls 8 ds = true) : SeqAt.shaped (.list (toPDs ds)) = true := by
  have := pls_lay 8 ds h
  show ((PyData.list (toPDs ds)).canLay0 && decide ((PyData.list (toPDs ds)).depth ≤ 64)) = true
  rw [Bool.and_eq_true]
  simp only [PyData.canLay0, PyData.depth]
  exact ⟨this.1, decide_eq_true (by omega)⟩
mutual
theorem eqv_pd : ∀ (m n : Nat) (a b : D), D.pl m a = true → D.pl n b = true → PyData.eqv (toPD a) (toPD b) = D.eqv a b
  | _, _, .dct _ _ _, _, h, _ | _, _, .box _, _, h, _ | _, _, .ro _, _, h, _ => by simp [D.pl] at h
  | _, _, .non, b, _, h | _, _, .bl _, b, _, h | _, _, .int _, b, _, h | _, _, .str _, b, _, h => by
    cases b <;> first | (simp [D.pl] at h; done) | simp only [toPD, PyData.eqv, D.eqv]
  | 0, _, .tup _, _, h, _ | 0, _, .lst _, _, h, _ => by simp [D.pl] at h
  | m + 1, n, .tup xs, b, h, h' => by
    cases b with
    | tup ys =>
      cases n with
      | zero => simp [D.pl] at h'
      | succ n =>
        simp only [D.pl] at h h'
        simp only [toPD, PyData.eqv, D.eqv]
        exact eqvs_pd m n xs ys h h'
    | _ => first | (simp [D.pl] at h'; done) | simp only [toPD, PyData.eqv, D.eqv]
  | m + 1, n, .lst xs, b, h, h' => by
    cases b with
    | lst ys =>
      cases n with
      | zero => simp [D.pl] at h'
      | succ n =>
        simp only [D.pl] at h h'
        simp only [toPD, PyData.eqv, D.eqv]
        exact eqvs_pd m n xs ys h h'
    | _ => first | (simp [D.pl] at h'; done) | simp only [toPD, PyData.eqv, D.eqv]
theorem eqvs_pd : ∀ (m n : Nat) (xs ys : List D), D.pls m xs = true → D.pls n ys = true → PyData.eqvAll (toPDs xs) (toPDs ys) = D.eqvs xs ys
  | _, _, [], [], _, _ | _, _, [], _ :: _, _, _ | _, _, _ :: _, [], _, _ => by simp only [toPDs, PyData.eqvAll, D.eqvs]
  | m, n, x :: xs, y :: ys, h, h' => by
    simp only [D.pls, Bool.and_eq_true] at h h'
    simp only [toPDs, PyData.eqvAll, D.eqvs]
    rw [eqv_pd m n x y h.1 h'.1, eqvs_pd m n xs ys h.2 h'.2]
end
section
variable {K : PySem.W.Frag} {base : Nat} {F F' H H' : Hp} {sa sa' : List Addr} {st st' : Store}
mutual
theorem dat_dp (hs : Sub F H) : ∀ {v : V} {d : D} (n : Nat), Dat K F sa v d → D.pl n d = true → Dp K H v (toPD d)
  | _, _, _, .non, _ => .non
  | _, _, _, .bl b, _ => .bl b
  | _, _, _, .int i, _ => .int i
  | _, _, _, .str x, _ => .str x
  | _, _, n + 1, .tup q r, h => by
    simp only [D.pl] at h
    exact .tup (sqt_sub hs q) (dats_dp hs n r h)
  | _, _, n + 1, .lst q r, h => by
    simp only [D.pl] at h
    exact .lst (.of (hs _ _ q)) (dats_dp hs n r h)
  | _, _, 0, .tup q r, h | _, _, 0, .lst q r, h | _, _, _, .dct _ _ _ _, h | _, _, _, .box _, h | _, _, _, .ro _ _, h => by simp [D.pl] at h
theorem dats_dp (hs : Sub F H) : ∀ {vs : List V} {ds : List D} (n : Nat), Dats K F sa vs ds → D.pls n ds = true → DpAll K H vs (toPDs ds)
  | _, _, _, .nil, _ => .nil
  | _, _, n, .cons q r, h => by
    simp only [D.pls, Bool.and_eq_true] at h
    exact .cons (dat_dp hs n q h.1) (dats_dp hs n r h.2)
end
theorem rds_dp (hs : Sub F H) {v : V} {d : D} (r : Rds K F sa H v d) (h : D.pl 8 d = true) : Dp K H v (toPD d) := by
  cases r with
  | non => exact .non
  | bl b => exact .bl b
  | int i => exact .int i
  | str x => exact .str x
  | tup q r => simp only [D.pl] at h; exact .tup (sqt_sub hs q) (dats_dp hs 7 r h)
  | lst q r => simp only [D.pl] at h; exact .lst (.of q) (dats_dp hs 7 r h)
  | dct _ _ _ _ => simp [D.pl] at h
  | box _ => simp [D.pl] at h
  | ro => simp [D.pl] at h

def cmOf : Cm → CmpOp
  | .eq => .Eq | .ne => .NotEq | .lt => .Lt | .le => .LtE | .gt => .Gt | .ge => .GtE | .isin => .In | .notin => .NotIn | .is_ => .Is | .isnot => .IsNot
def rCm (K : PySem.W.Frag) : Cm → R2
  | .eq => fun x y H Q => rEq x y H Q ∨ rEqD K x y H Q
  | .ne => fun x y H Q => rNe x y H Q ∨ rNeD K x y H Q
  | .lt => rI0 fun i j => .bl (decide (i < j))
  | .le => rI0 fun i j => .bl (decide (i ≤ j))
  | .gt => rI0 fun i j => .bl (decide (j < i))
  | .ge => rI0 fun i j => .bl (decide (j ≤ i))
  | .isin => fun x y H Q => rInD K x y H Q ∨ rIn K false x y H Q
  | .notin => fun x y H Q => rNotInD K x y H Q ∨ rIn K true x y H Q
  | .is_ => fun x y H Q => y = .non ∧ Q (.bl (decide (x = .non))) H
  | .isnot => fun x y H Q => y = .non ∧ Q (.bl (!decide (x = .non))) H
theorem cm_rule {X : Cx} (hu : X.A.units + 65 < cLine) (o : Cm) : OpR X (compareOp (cmOf o)) (rCm X.K o) := by
  cases o with
  | eq => exact op_eq.or (op_eqD (by omega))
  | ne => exact op_ne.or (op_neD (by omega))
  | lt => exact op_lt
  | le => exact op_le
  | gt => exact op_gt
  | ge => exact op_ge
  | isin => exact (op_inD hu).or op_in_seq
  | notin => exact (op_notInD hu).or op_notIn_seq
  | is_ => exact op_isN
  | isnot => exact op_notN
theorem any_pd {x : D} (hx : D.pl 8 x = true) : ∀ ds : List D, D.pls 8 ds = true → ((toPDs ds).any fun z => PyData.eqv z (toPD x)) = ds.any fun z => D.eqv z x
  | [], _ => rfl
  | d :: ds, h => by
    simp only [D.pls, Bool.and_eq_true] at h
    simp only [toPDs, List.any_cons, any_pd hx ds h.2, eqv_pd 8 8 d x h.1 hx]
theorem str_vals {ds : List D} : ∀ {vs : List V}, Dats K F sa vs ds → allStr ds = true → ∃ xs : List Str, vs = xs.map .str ∧ ds = xs.map .str := by
  induction ds with
  | nil => intro vs h _; cases h; exact ⟨[], rfl, rfl⟩
  | cons d ds ih =>
    intro vs h hs
    cases h with
    | @cons v _ vs' _ q r =>
      simp only [allStr, Bool.and_eq_true] at hs
      obtain ⟨xs, rfl, rfl⟩ := ih r hs.2
      cases q with
      | str x => exact ⟨x :: xs, rfl, rfl⟩
      | _ => simp [isStr] at hs
theorem inV_strs (x : Str) (xs : List Str) : inV (.str x) (xs.map .str) = (xs.map D.str).any fun z => D.eqv z (.str x) := by
  induction xs with
  | nil => rfl
  | cons y ys ih =>
    have ih' : ((ys.map V.str).any fun y => eqV y (.str x)) = (ys.map D.str).any fun z => D.eqv z (.str x) := ih
    simp only [inV, List.map_cons, List.any_cons, D.eqv]
    rw [← ih']
    rfl
theorem flat_strs (xs : List Str) : (xs.map V.str).all flatV = true := by
  induction xs with
  | nil => rfl
  | cons y ys ih => simp [flatV, ih]
theorem bl_fin {b c : Bool} {Q : VK} (q : Q (.bl b) H) (e : b = c) : Q (.bl c) H := by rw [← e]; exact q
theorem eq_ok {v1 v2 : V} {x y : D} {b : Bool} (hs : Sub F H) (r1 : Rds K F sa H v1 x) (r2 : Rds K F sa H v2 y) (h : eqD x y = some b) :
    (L2.scal v1 v2 = true ∧ decide (v1 = v2) = b) ∨ (Dp K H v1 (toPD x) ∧ Dp K H v2 (toPD y) ∧ SeqAt.shaped (toPD x) = true ∧ SeqAt.shaped (toPD y) = true ∧ PyData.eqv (toPD x) (toPD y) = b) := by
  unfold eqD at h
  simp only [Option.ite_none_right_eq_some, Option.some.injEq] at h
  obtain ⟨h, e⟩ := h
  by_cases hp : D.pl 8 x = true ∧ D.pl 8 y = true
  · exact .inr ⟨rds_dp hs r1 hp.1, rds_dp hs r2 hp.2, pl_shaped hp.1, pl_shaped hp.2, by rw [eqv_pd 8 8 x y hp.1 hp.2]; exact e⟩
  · have hsc : Ev.scal x y = true := by
      simp only [Bool.or_eq_true, Bool.and_eq_true] at h
      exact h.resolve_right hp
    refine .inl ?_
    subst e
    cases r1 <;> cases r2 <;> try (simp [Ev.scal] at hsc; done)
    · exact ⟨rfl, by simp [D.eqv]⟩
    · exact ⟨rfl, by rw [dec_bl]; simp [D.eqv]⟩
    · exact ⟨rfl, by rw [dec_int]; simp [D.eqv]⟩
    · exact ⟨rfl, by rw [dec_str]; simp [D.eqv]⟩
theorem in_ok {v1 v2 : V} {x y : D} {b : Bool} (hs : Sub F H) (r1 : Rds K F sa H v1 x) (r2 : Rds K F sa H v2 y) (h : inD x y = some b) :
    (∃ d ds, Dp K H v1 d ∧ Dp K H v2 (.list ds) ∧ SeqAt.shaped d = true ∧ SeqAt.shaped (.list ds) = true ∧ (ds.any fun z => PyData.eqv z d) = b) ∨
    (∃ p xs, v2 = .ref p ∧ (SqL K H p xs ∨ SqT K H p xs) ∧ flatV v1 = true ∧ xs.all flatV = true ∧ inV v1 xs = b) := by
  cases r2 with
  | @lst a vs ds hl q =>
    simp only [inD, Option.ite_none_right_eq_some, Option.some.injEq, Bool.and_eq_true] at h
    obtain ⟨⟨h1, h2⟩, rfl⟩ := h
    exact .inl ⟨_, _, rds_dp hs r1 h1, .lst (.of hl) (dats_dp hs 8 q h2), pl_shaped h1, pls_shaped h2, any_pd h1 ds h2⟩
  | @tup a vs ds hl q =>
    simp only [inD, Option.ite_none_right_eq_some, Option.some.injEq, Bool.and_eq_true] at h
    obtain ⟨⟨h1, h2⟩, rfl⟩ := h
    obtain ⟨xs, rfl, rfl⟩ := str_vals q h2
    cases r1 with
    | str x => exact .inr ⟨_, _, rfl, .inr (sqt_sub hs hl), rfl, flat_strs xs, inV_strs x xs⟩
    | _ => simp [isStr] at h1
  | _ => simp [inD] at h
theorem cm_ok {o : Cm} {v1 v2 : V} {x y : D} {b : Bool} {Q : VK} (W : Wd K base F sa st H) (r1 : Rds K F sa H v1 x) (r2 : Rds K F sa H v2 y) (h : cmpD o x y = some b) (q : Q (.bl b) H) : rCm K o v1 v2 H Q := by
  cases o with
  | eq =>
    rcases eq_ok W.sub r1 r2 h with ⟨h1, h2⟩ | ⟨h1, h2, h3, h4, h5⟩
    · exact .inl ⟨h1, bl_fin q h2.symm⟩
    · exact .inr ⟨_, _, h1, h2, h3, h4, bl_fin q h5.symm⟩
  | ne =>
    simp only [cmpD, Option.map_eq_some_iff] at h
    obtain ⟨c, h, rfl⟩ := h
    rcases eq_ok W.sub r1 r2 h with ⟨h1, h2⟩ | ⟨h1, h2, h3, h4, h5⟩
    · exact .inl ⟨h1, by rw [h2]; exact q⟩
    · exact .inr ⟨_, _, h1, h2, h3, h4, by rw [h5]; exact q⟩
  | isin =>
    rcases in_ok W.sub r1 r2 h with ⟨d, ds, h1, h2, h3, h4, h5⟩ | ⟨p, xs, h1, h2, h3, h4, h5⟩
    · exact .inl ⟨d, ds, h1, h2, h3, h4, bl_fin q h5.symm⟩
    · exact .inr ⟨p, xs, h1, h2, h3, h4, by simp only [Bool.false_eq_true, if_false]; exact bl_fin q h5.symm⟩
  | notin =>
    simp only [cmpD, Option.map_eq_some_iff] at h
    obtain ⟨c, h, rfl⟩ := h
    rcases in_ok W.sub r1 r2 h with ⟨d, ds, h1, h2, h3, h4, h5⟩ | ⟨p, xs, h1, h2, h3, h4, h5⟩
    · exact .inl ⟨d, ds, h1, h2, h3, h4, by rw [h5]; exact q⟩
    · exact .inr ⟨p, xs, h1, h2, h3, h4, by simp only [if_true]; rw [h5]; exact q⟩
  | is_ =>
    cases r2 <;> try (cases r1 <;> simp [cmpD] at h; done)
    cases r1 <;> (simp only [cmpD, Option.some.injEq] at h; subst h; exact ⟨rfl, bl_fin q (by simp)⟩)
  | isnot =>
    cases r2 <;> try (cases r1 <;> simp [cmpD] at h; done)
    cases r1 <;> (simp only [cmpD, Option.some.injEq] at h; subst h; exact ⟨rfl, bl_fin q (by simp)⟩)
  | lt =>
    cases r1 <;> cases r2 <;> try (simp [cmpD] at h; done)
    simp only [cmpD, Option.some.injEq] at h
    exact ⟨_, _, rfl, rfl, bl_fin q h.symm⟩
  | le =>
    cases r1 <;> cases r2 <;> try (simp [cmpD] at h; done)
    simp only [cmpD, Option.some.injEq] at h
    exact ⟨_, _, rfl, rfl, bl_fin q h.symm⟩
  | gt =>
    cases r1 <;> cases r2 <;> try (simp [cmpD] at h; done)
    simp only [cmpD, Option.some.injEq] at h
    exact ⟨_, _, rfl, rfl, bl_fin q h.symm⟩
  | ge =>
    cases r1 <;> cases r2 <;> try (simp [cmpD] at h; done)
    simp only [cmpD, Option.some.injEq] at h
    exact ⟨_, _, rfl, rfl, bl_fin q h.symm⟩
end
end Ev

namespace Ev
open PySem PySem.Spec PyProof.Rows L2
section
variable {K : PySem.W.Frag} {base : Nat} {F F' H H' : Hp} {sa sa' : List Addr} {st st' : Store}
inductive Rl (K : PySem.W.Frag) (F : Hp) (sa : List Addr) (H : Hp) : List V → List D → Prop
  | nil : Rl K F sa H [] []
  | cons {v : V} {d : D} {vs : List V} {ds : List D} : RdsR K F sa H v d → Rl K F sa H vs ds → Rl K F sa H (v :: vs) (d :: ds)
theorem rl_ok (W : Wd K base F sa st H) : ∀ {vs : List V} {ds : List D}, Dats K F sa vs ds → Rl K F sa H vs (ds.map (rdR st))
  | _, _, .nil => .nil
  | _, _, .cons q r => .cons (rdR_ok W q) (rl_ok W r)
/-- the prims that are served -/
def rPrim (X : Cx) : P → List V → Hp → VK → Prop
  | .len => fun xs H Q => ∃ x n, xs = [x] ∧ LenV X.K x H n ∧ Q (.int n) H
  | .abs => fun xs H Q => ∃ i, xs = [.int i] ∧ Q (.int (if i < 0 then -i else i)) H
  | .max2 => fun xs H Q => ∃ i j, xs = [.int i, .int j] ∧ Q (.int (if j > i then j else i)) H
  | .min2 => fun xs H Q => ∃ i j, xs = [.int i, .int j] ∧ Q (.int (if j < i then j else i)) H
  | .max1 => rMax X.K
  | .int => fun xs H Q => (∃ i, xs = [.int i] ∧ Q (.int i) H) ∨ ∃ k, xs = [.bl k] ∧ Q (.int (if k then 1 else 0)) H
  | .bool => fun xs H Q => (∃ i, xs = [.int i] ∧ Q (.bl (i != 0)) H) ∨ ∃ k, xs = [.bl k] ∧ Q (.bl k) H
  | .str => fun xs H Q => ∃ i, xs = [.int i] ∧ i.natAbs.log2 < 1920 ∧ Q (.str (toString i)) H
  | .tuple => fun xs H Q => ∃ p ys, xs = [.ref p] ∧ ((SqL X.K H p ys ∧ ∀ l, H l = none → Q (.ref l) (upd H l (.tup ys))) ∨ (SqT X.K H p ys ∧ Q (.ref p) H))
  | .list => fun xs H Q => ∃ p ys, xs = [.ref p] ∧ (SqL X.K H p ys ∨ SqT X.K H p ys) ∧ ∀ l, H l = none → Q (.ref l) (upd H l (.lst ys))
  | .all => rAll X.K
  | .any => rAny X.K
  | _ => fun _ _ _ => False
/-- a prim's name, and whether it is a type -/
def pName : P → Option (String × Bool)
  | .len => some ("len", false)
  | .abs => some ("abs", false)
  | .max2 | .max1 => some ("max", false)
  | .min2 => some ("min", false)
  | .all => some ("all", false)
  | .any => some ("any", false)
  | .int => some ("int", true)
  | .bool => some ("bool", true)
  | .str => some ("str", true)
  | .tuple => some ("tuple", true)
  | .list => some ("list", true)
  | _ => none
def pVal : String × Bool → Value
  | (n, true) => .type n
  | (n, false) => .builtin n
theorem prim_rule {X : Cx} (hc : X.calm = true) {p : P} {n : String × Bool} (h : pName p = some n) : CallR X (pVal n) (rPrim X p) := by
  cases p <;> simp only [pName, Option.some.injEq] at h <;> first | (cases h; done) | (subst h)
  · exact call_len
  · exact call_abs
  · exact call_max2 hc
  · exact call_min2 hc
  · exact cr_max hc
  · exact call_int1
  · exact call_bool1
  · exact call_str_int
  · exact call_tuple_of
  · exact call_list_of
  · exact cr_all hc
  · exact cr_any hc
theorem new_sc {f : Bool} {d d' : D} (e : new f d st = some (d', st')) (h : ∀ ds, d ≠ .lst ds) (h2 : ∀ t ks vs, d ≠ .dct t ks vs) : d' = d ∧ st' = st := by
  cases f with
  | false => simp only [new, Bool.false_eq_true, if_false, Option.some.injEq, Prod.mk.injEq] at e; exact ⟨e.1.symm, e.2.symm⟩
  | true =>
    cases d with
    | lst ds => exact absurd rfl (h ds)
    | dct t ks vs => exact absurd rfl (h2 t ks vs)
    | _ => simp [new] at e
theorem Out.sc {f : Bool} {d d' : D} {v : V} {Q : VK} (O : Out K base F sa st H st' d' Q) (e : new f d st = some (d', st')) (W : Wd K base F sa st H) (h : Dat K F sa v d) (h1 : ∀ ds, d ≠ .lst ds) (h2 : ∀ t ks vs, d ≠ .dct t ks vs) : Q v H := by
  obtain ⟨rfl, rfl⟩ := new_sc e h1 h2
  exact O.same W h
theorem bools_vals : ∀ {ds : List D} {vs : List V} {bs : List Bool}, Dats K F sa vs ds → bools ds = some bs → vs = bs.map .bl
  | [], _, _, h, e => by cases h; simp [bools] at e; subst e; rfl
  | d :: ds, _, bs, h, e => by
    cases h with
    | cons q r =>
      cases q with
      | bl b =>
        simp only [bools, Option.map_eq_some_iff] at e
        obtain ⟨bs', e, rfl⟩ := e
        rw [bools_vals r e]; rfl
      | _ => simp [bools] at e
theorem ints_vals : ∀ {ds : List D} {vs : List V} {bs : List Int}, Dats K F sa vs ds → asInts ds = some bs → vs = bs.map .int
  | [], _, _, h, e => by cases h; simp [asInts] at e; subst e; rfl
  | d :: ds, _, bs, h, e => by
    cases h with
    | cons q r =>
      cases q with
      | int b =>
        simp only [asInts, Option.map_eq_some_iff] at e
        obtain ⟨bs', e, rfl⟩ := e
        rw [ints_vals r e]; rfl
      | _ => simp [asInts] at e
theorem maxI_mem : ∀ {xs : List Int}, xs ≠ [] → maxI xs ∈ xs
  | [], h => absurd rfl h
  | [x], _ => by simp [maxI]
  | x :: y :: ys, _ => by
    have := maxI_mem (xs := y :: ys) (by simp)
    simp only [maxI]
    by_cases h : x ≤ maxI (y :: ys)
    · rw [Int.max_eq_right h]; exact List.mem_cons_of_mem _ this
    · rw [Int.max_eq_left (by omega)]; exact List.mem_cons_self
theorem maxI_le : ∀ {xs : List Int} {y : Int}, y ∈ xs → y ≤ maxI xs
  | [], _, h => by simp at h
  | [x], y, h => by simp at h; subst h; simp [maxI]
  | x :: z :: zs, y, h => by
    simp only [maxI]
    rcases List.mem_cons.mp h with rfl | h
    · exact Int.le_max_left _ _
    · exact Int.le_trans (maxI_le h) (Int.le_max_right _ _)
theorem prim_ok {X : Cx} {p : P} {f : Bool} {vs : List V} {ds : List D} {d d' : D} {Q : VK} {n : String × Bool} (hn : pName p = some n) (W : Wd X.K base F sa st H) (r : Rl X.K F sa H vs ds) (h : primD p ds = some d) (e : new f d st = some (d', st'))
    (O : Out X.K base F sa st H st' d' Q) : rPrim X p vs H Q := by
  cases r with
  | nil => cases p <;> simp [primD] at h
  | @cons v d1 vs ds r1 r =>
    cases r with
    | @cons v2 d2 vs ds r2 r =>
      cases r with
      | cons _ _ => cases p <;> simp [primD] at h
      | nil =>
        cases p <;> try (simp [primD] at h; done)
        · cases r1 <;> cases r2 <;> try (simp [primD] at h; done)
          simp only [primD, Option.some.injEq] at h
          subst h
          exact ⟨_, _, rfl, O.sc e W (.int _) (fun _ z => nomatch z) fun _ _ _ z => nomatch z⟩
        · cases r1 <;> cases r2 <;> try (simp [primD] at h; done)
          simp only [primD, Option.some.injEq] at h
          subst h
          exact ⟨_, _, rfl, O.sc e W (.int _) (fun _ z => nomatch z) fun _ _ _ z => nomatch z⟩
    | nil =>
      cases p <;> try (simp [primD] at h; done)
      -- len
      · cases r1 with
        | str x =>
          simp only [primD, Option.ite_none_right_eq_some, Option.some.injEq] at h
          obtain ⟨h, rfl⟩ := h
          exact ⟨_, _, rfl, ⟨lim_line h, rfl⟩, O.sc e W (.int _) (fun _ z => nomatch z) fun _ _ _ z => nomatch z⟩
        | lst q r =>
          simp only [primD, Option.some.injEq] at h
          subst h
          exact ⟨_, _, rfl, .inl ⟨_, q, r.length.symm⟩, O.sc e W (.int _) (fun _ z => nomatch z) fun _ _ _ z => nomatch z⟩
        | tup q r =>
          simp only [primD, Option.some.injEq] at h
          subst h
          exact ⟨_, _, rfl, .inr ⟨_, sqt_sub W.sub q, r.length.symm⟩, O.sc e W (.int _) (fun _ z => nomatch z) fun _ _ _ z => nomatch z⟩
        | _ => simp [primD] at h
      -- abs
      · cases r1 <;> try (simp [primD] at h; done)
        simp only [primD, Option.some.injEq] at h
        subst h
        exact ⟨_, rfl, O.sc e W (.int _) (fun _ z => nomatch z) fun _ _ _ z => nomatch z⟩
      -- max1
      · cases r1 <;> try (simp [primD] at h; done)
        rename_i a vs ds q r
        simp only [primD, Option.bind_eq_some_iff] at h
        obtain ⟨is, h1, h2⟩ := h
        by_cases hz : is = []
        · rw [if_pos hz] at h2; cases h2
        · rw [if_neg hz] at h2
          cases h2
          rw [ints_vals r h1] at q
          refine ⟨_, is, rfl, q, by cases is <;> simp at hz ⊢, fun m hm hmax => ?_⟩
          have e1 : m = maxI is := Int.le_antisymm (maxI_le hm) (hmax _ (maxI_mem hz))
          subst e1
          exact O.sc e W (.int _) (fun _ z => nomatch z) fun _ _ _ z => nomatch z
      -- int
      · cases r1 <;> try (simp [primD] at h; done)
        · simp only [primD, Option.some.injEq] at h
          subst h
          exact .inr ⟨_, rfl, O.sc e W (.int _) (fun _ z => nomatch z) fun _ _ _ z => nomatch z⟩
        · simp only [primD, Option.some.injEq] at h
          subst h
          exact .inl ⟨_, rfl, O.sc e W (.int _) (fun _ z => nomatch z) fun _ _ _ z => nomatch z⟩
      -- bool
      · cases r1 <;> try (simp [primD] at h; done)
        simp only [primD, Option.some.injEq] at h
        subst h
        exact .inr ⟨_, rfl, O.sc e W (.bl _) (fun _ z => nomatch z) fun _ _ _ z => nomatch z⟩
      -- str
      · cases r1 <;> try (simp [primD] at h; done)
        rename_i i
        simp only [primD, Option.ite_none_right_eq_some, Option.some.injEq] at h
        obtain ⟨h, rfl⟩ := h
        refine ⟨_, rfl, ?_, O.sc e W (.str _) (fun _ z => nomatch z) fun _ _ _ z => nomatch z⟩
        have : i.natAbs < 2 ^ 1920 := Nat.lt_of_lt_of_le h (by decide)
        exact PySem.Flt.log2_lt_of (by decide) this
      -- sorted, sortset
      · simp [pName] at hn
      · simp [pName] at hn
      -- tuple
      · cases r1 <;> try (simp [primD] at h; done)
        · rename_i a vs ds q r
          simp only [primD, Option.some.injEq] at h
          subst h
          exact ⟨_, _, rfl, .inr ⟨sqt_sub W.sub q, O.sc e W (.tup q r) (fun _ z => nomatch z) fun _ _ _ z => nomatch z⟩⟩
        · rename_i a vs ds q r
          simp only [primD, Option.some.injEq] at h
          subst h
          obtain ⟨rfl, rfl⟩ := new_sc e (fun _ z => nomatch z) fun _ _ _ z => nomatch z
          exact ⟨_, _, rfl, .inl ⟨q, O.tup W r⟩⟩
      -- list
      · cases r1 <;> try (simp [primD] at h; done)
        · rename_i a vs ds q r
          simp only [primD, Option.some.injEq] at h
          subst h
          exact ⟨_, _, rfl, .inr (sqt_sub W.sub q), O.newlst e W r⟩
        · rename_i a vs ds q r
          simp only [primD, Option.some.injEq] at h
          subst h
          exact ⟨_, _, rfl, .inl q, O.newlst e W r⟩
      -- dict
      · simp [pName] at hn
      -- all
      · cases r1 <;> try (simp [primD] at h; done)
        rename_i a vs ds q r
        simp only [primD, Option.map_eq_some_iff] at h
        obtain ⟨bs, h1, rfl⟩ := h
        rw [bools_vals r h1] at q
        exact ⟨_, bs, rfl, q, O.sc e W (.bl _) (fun _ z => nomatch z) fun _ _ _ z => nomatch z⟩
      -- any
      · cases r1 <;> try (simp [primD] at h; done)
        rename_i a vs ds q r
        simp only [primD, Option.map_eq_some_iff] at h
        obtain ⟨bs, h1, rfl⟩ := h
        rw [bools_vals r h1] at q
        exact ⟨_, bs, rfl, q, O.sc e W (.bl _) (fun _ z => nomatch z) fun _ _ _ z => nomatch z⟩
      -- isin, dlen ..
      all_goals (simp [pName] at hn)

def rSub (K : PySem.W.Frag) : R2 := rIx K
theorem atD_atI {vs : List V} {ds : List D} {i : Int} {d : D} (r : Dats K F sa vs ds) (h : atD ds i = some d) : ∃ v, atI vs i = some v ∧ Dat K F sa v d := by
  unfold atD at h
  unfold atI ixN
  rw [r.length]
  by_cases h0 : 0 ≤ i
  · rw [if_pos h0] at h ⊢
    by_cases h1 : i < ds.length
    · rw [if_pos h1] at h ⊢
      obtain ⟨v, e, q⟩ := r.get h
      exact ⟨v, e, q⟩
    · rw [if_neg h1] at h; cases h
  · rw [if_neg h0] at h ⊢
    by_cases h1 : -(ds.length : Int) ≤ i
    · rw [if_pos h1] at h ⊢
      obtain ⟨v, e, q⟩ := r.get h
      exact ⟨v, e, q⟩
    · rw [if_neg h1] at h; cases h
theorem sub_ok {v1 v2 : V} {x y d : D} {Q : VK} (W : Wd K base F sa st H) (r1 : RdsR K F sa H v1 x) (r2 : Dat K F sa v2 y) (h : subD x y = some d) (O : Out K base F sa st H st d Q) : rSub K v1 v2 H Q := by
  cases r1 <;> cases r2 <;> try (simp [subD] at h; done)
  · rename_i a vs ds q r i
    simp only [subD] at h
    obtain ⟨v, e, q2⟩ := atD_atI r h
    exact .inr (.inl ⟨_, _, _, _, rfl, rfl, sqt_sub W.sub q, e, O.same W q2⟩)
  · rename_i a vs ds q r i
    simp only [subD] at h
    obtain ⟨v, e, q2⟩ := atD_atI r h
    exact .inl ⟨_, _, _, _, rfl, rfl, q, e, O.same W q2⟩
theorem cut_dats {vs : List V} {ds : List D} (lo hi : Option Int) (r : Dats K F sa vs ds) : Dats K F sa (cutV vs lo hi) (cutD ds lo hi) := by
  unfold cutV cutD
  rw [r.length]
  have e : ∀ (d : Nat) (x : Option Int), HT.sIx ds.length d x = cutF ds.length d x := fun d x => by cases x <;> rfl
  rw [e, e]
  exact (r.drop _).take _
theorem cut_whole {ds : List D} {lo hi : Option Int} (h : HT.sIx ds.length 0 lo = 0 ∧ HT.sIx ds.length ds.length hi = ds.length) : cutD ds lo hi = ds := by
  have e : ∀ (d : Nat) (x : Option Int), HT.sIx ds.length d x = cutF ds.length d x := fun d x => by cases x <;> rfl
  rw [e, e] at h
  unfold cutD
  rw [h.1, h.2]
  simp
def cutR (d : D) (lo hi : Option Int) : Option D := match d with
  | .lst ds => some (.lst (cutD ds lo hi))
  | .tup ds => some (.tup (cutD ds lo hi))
  | _ => none
theorem cut_ok {v : V} {x d : D} {lo hi : Option Int} {Q : VK} (W : Wd K base F sa st H) (r : Rds K F sa H v x) (h : cutR x lo hi = some d) (O : Out K base F sa st H st d Q) : rSlL K v lo hi H Q ∨ rSlA K v lo hi H Q := by
  cases r <;> try (simp [cutR] at h; done)
  · rename_i a vs ds q r
    simp only [cutR, Option.some.injEq] at h
    subst h
    refine .inr ⟨_, _, rfl, sqt_sub W.sub q, fun hw => ?_, fun _ => O.tup W (cut_dats lo hi r)⟩
    rw [r.length] at hw
    rw [cut_whole hw] at O
    exact O.same W (.tup q r)
  · rename_i a vs ds q r
    simp only [cutR, Option.some.injEq] at h
    subst h
    exact .inl ⟨_, _, rfl, .of q, O.lst W (cut_dats lo hi r)⟩
end
end Ev

namespace Ev
open PySem PySem.Spec PyProof.Rows L2
theorem _root_.L2.PE.imp {X : Cx} {e : Expr} {t t' : TE} (h : PE X e t) (i : ∀ σ H Q, t' σ H Q → t σ H Q) : PE X e t' := ⟨fun p s σ H Q I q => h.run p s σ H Q I (i σ H Q q)⟩
theorem _root_.L2.PT.imp {X : Cx} {e : Expr} {t t' : TT} (h : PT X e t) (i : ∀ σ H Q, t' σ H Q → t σ H Q) : PT X e t' := ⟨fun p s σ H Q I q => h.run p s σ H Q I (i σ H Q q)⟩
theorem _root_.L2.PW.imp {X : Cx} {e : Expr} {t t' : TT} (h : PW X e t) (i : ∀ σ H Q, t' σ H Q → t σ H Q) : PW X e t' := ⟨fun w p s σ H Q I q => h.run w p s σ H Q I (i σ H Q q)⟩
theorem _root_.L2.PA.imp {X : Cx} {e : List Expr} {t t' : TA} (h : PA X e t) (i : ∀ σ H Q, t' σ H Q → t σ H Q) : PA X e t' := ⟨fun o p s σ H Q I q => h.run o p s σ H Q I (i σ H Q q)⟩
theorem _root_.L2.PS.imp {X : Cx} {e : Stmt} {t t' : TS} (h : PS X e t) (i : ∀ D σ H, t' D σ H → t D σ H) : PS X e t' := ⟨fun p s σ H D I q => h.run p s σ H D I (i D σ H q)⟩
theorem _root_.L2.PSs.imp {X : Cx} {e : List Stmt} {t t' : TS} (h : PSs X e t) (i : ∀ D σ H, t' D σ H → t D σ H) : PSs X e t' := ⟨fun p s σ H D I q => h.run p s σ H D I (i D σ H q)⟩

section
variable (K : PySem.W.Frag) (c : Ctx)
def tEv (e : E) : TE := fun σ H Q => ∃ F sa st ρ d st', Wd K c.base F sa st H ∧ Rho K F sa σ ρ ∧ evE c e ρ st = some (d, st') ∧ Out K c.base F sa st H st' d Q
def OutB (base : Nat) (F : Hp) (sa : List Addr) (st : Store) (H : Hp) (st' : Store) (b : Bool) (Q : Bool → Hp → Prop) : Prop := ∀ F' sa' H', Wd K base F' sa' st' H' → Ext base F sa st H F' sa' st' H' → Q b H'
def tEvT (e : E) : TT := fun σ H Q => ∃ F sa st ρ b st', Wd K c.base F sa st H ∧ Rho K F sa σ ρ ∧ evC c e ρ st = some (b, st') ∧ OutB K c.base F sa st H st' b Q
def OutL (base : Nat) (F : Hp) (sa : List Addr) (st : Store) (H : Hp) (st' : Store) (ds : List D) (Q : List V → Hp → Prop) : Prop := ∀ vs F' sa' H', Wd K base F' sa' st' H' → Ext base F sa st H F' sa' st' H' → Dats K F' sa' vs ds → Q vs H'
def tEvs (es : List E) : TA := fun σ H Q => ∃ F sa st ρ ds st', Wd K c.base F sa st H ∧ Rho K F sa σ ρ ∧ evEs c es ρ st = some (ds, st') ∧ OutL K c.base F sa st H st' ds Q
end
section
variable {K : PySem.W.Frag} {base : Nat} {F F' H H' : Hp} {sa sa' : List Addr} {st st' : Store}
theorem Rho.ext {σ : L2.St} {ρ : Env} (r : Rho K F sa σ ρ) (E : Ext base F sa st H F' sa' st' H') : Rho K F' sa' σ ρ := r.mono E.sub E.pre
theorem Dat.ext {v : V} {d : D} (r : Dat K F sa v d) (E : Ext base F sa st H F' sa' st' H') : Dat K F' sa' v d := r.mono E.sub E.pre
theorem Dats.ext {v : List V} {d : List D} (r : Dats K F sa v d) (E : Ext base F sa st H F' sa' st' H') : Dats K F' sa' v d := r.mono E.sub E.pre

theorem Wd.up (W : Wd K base F sa st H) : Wd K st.length F sa st H where
  sub := W.sub
  len := W.len
  nd := W.nd
  out := W.out
  there := W.there
  box := W.box
  old := fun n b hn e => by
    have hs : n < sa.length := by rw [W.len]; exact hn
    have B := W.box n sa[n] b (List.getElem?_eq_getElem hs) e
    rw [← W.len]
    cases b with
    | lst ds => obtain ⟨vs, _, q⟩ := B; exact q.under
    | dct t ks vs => obtain ⟨u, kv, vv, _, _, q, r⟩ := B; simp only [B.under, Bool.and_eq_true]; exact ⟨q.under, r.under⟩
    | lk t ks vs => obtain ⟨o, u, kv, vv, _, _, q, r⟩ := B; simp only [B.under, Bool.and_eq_true]; exact ⟨q.under, r.under⟩
    | dead => rfl
  le := Nat.le_refl _
theorem Pre.le {a b : List Addr} (h : Pre a b) : a.length ≤ b.length := by obtain ⟨x, rfl⟩ := h; simp
theorem Wd.down (W : Wd K base F sa st H) (W' : Wd K st.length F' sa' st' H') (E : Ext st.length F sa st H F' sa' st' H') : Wd K base F' sa' st' H' ∧ Ext base F sa st H F' sa' st' H' := by
  have hl : st.length ≤ st'.length := by rw [← W.len, ← W'.len]; exact E.pre.le
  exact ⟨⟨W'.sub, W'.len, W'.nd, W'.out, W'.there, W'.box, E.old base W.le W.old, Nat.le_trans W.le hl⟩, ⟨E.sub, E.pre, E.fr, E.new, fun m hm h => E.old m (Nat.le_trans hm W.le) h, E.fz⟩⟩
theorem Out.call {d : D} {Q : VK} (O : Out K base F sa st H st' d Q) (W : Wd K base F sa st H) : Out K st.length F sa st H st' d Q := fun v F' sa' H' W' E' h => by
  obtain ⟨W2, E2⟩ := W.down W' E'
  exact O v F' sa' H' W2 E2 h
end
/-- what a def promises by the evaluator -/
def spEv (K : PySem.W.Frag) (call : Nat → List D → M D) (f n : Nat) : Sp := fun vs H Q _ => ∃ F sa st ds d st', vs.length = n ∧ Wd K st.length F sa st H ∧ Dats K F sa vs ds ∧ call f ds st = some (d, st') ∧ Out K st.length F sa st H st' d Q

/-- the module's constants, its defs (their numbers and how many parameters) -/
structure Gam where
  consts : List (Str × D)
  defs : List (Str × Nat × Nat)
/-- the built-ins' names -/
def bNames : List String := ["len", "abs", "max", "min", "all", "any", "int", "bool", "str", "tuple", "list", "isinstance", "range", "zip", "enumerate", "sorted", "set", "dict"]
structure Good (Γ : Gam) (X : Cx) (top : Bool) (N : List Str) (sc : Scope) (c : Ctx) : Prop where
  hN : X.N = N
  nd : X.N.Nodup
  hsc : X.env.scope = sc
  calm : X.calm = true
  units : X.A.units + 66 < cLine
  fn : top = true → ∀ x, X.fn x = true
  bl : ∀ n ∈ bNames, X.mg (Str.ofString n) = none
  cs : ∀ x d, (x, d) ∈ Γ.consts → ∃ v u, X.mg x = some u ∧ RelV v u ∧ Dat X.K (fun _ => none) [] v d
  df : ∀ x f n, (x, f, n) ∈ Γ.defs → ∃ a fd ps k, X.mg x = some (.ref a) ∧ PySem.W.keepIn X.K (.ref a) = true ∧ FnOk X.prog X.w X.K X.mg X.base CX0 k a fd ps (spEv X.K c.call f n) ∧ Room k X.A ∧ Binds X.K fd ps []

def vis (sc : Scope) (x : Str) : Bool := match sc.names.lookup x with
  | some .local | some .cell | some .free => true
  | _ => false
theorem vis_ok {X : Cx} {sc : Scope} {x : Str} (hs : X.env.scope = sc) (h : vis sc x = true) : Vis X.env.scope x := by
  unfold vis at h
  rw [hs]
  split at h
  · exact .inl (by assumption)
  · exact .inr (.inl (by assumption))
  · exact .inr (.inr (by assumption))
  · cases h
def glb (sc : Scope) (x : Str) : Bool := match sc.names.lookup x with
  | some .globalImplicit => true
  | _ => false
theorem glb_ok {X : Cx} {sc : Scope} {x : Str} (hs : X.env.scope = sc) (h : glb sc x = true) : Gl X x := by
  unfold glb at h
  show X.env.kindOf x = some .globalImplicit
  show X.env.scope.names.lookup x = some .globalImplicit
  rw [hs]
  split at h
  · assumption
  · cases h
def plainName (x : Str) : Bool := !(x == ("__debug__" : Str)) && !(x == ("__classdict__" : Str)) && !(x == ("__name__" : Str))
theorem plainName_ok {x : Str} (h : plainName x = true) : (x == ("__debug__" : Str)) = false ∧ (x == ("__classdict__" : Str)) = false ∧ x ≠ "__name__" := by
  simp only [plainName, Bool.and_eq_true, Bool.not_eq_true'] at h
  exact ⟨h.1.1, h.1.2, fun e => by rw [e] at h; simp at h⟩
def notStar : Expr → Bool
  | .Starred .. => false
  | _ => true
theorem star_cons {e : Expr} {es : List Expr} {env : PySem.Env} (h : notStar e = true) : starEach (e :: es) env = (false, eval e env) :: starEach es env := by
  cases e <;> first | rfl | simp [notStar] at h
theorem star_no {env : PySem.Env} {pos : Pos} : ∀ {es : List Expr}, es.all notStar = true → (backTo pos (starEach es env)).any (·.1) = false
  | [], _ => rfl
  | e :: es, h => by
    simp only [List.all_cons, Bool.and_eq_true] at h
    rw [star_cons h.1]
    have := star_no (env := env) (pos := pos) h.2
    unfold backTo at this ⊢
    simp only [List.map_cons, List.any_cons, Bool.or_eq_false_iff]
    exact ⟨trivial, this⟩
end Ev

namespace Ev
open PySem PySem.Spec PyProof.Rows L2
section
variable {X : Cx} {c : Ctx} {Γ : Gam} {top : Bool} {N : List Str} {sc : Scope}

theorem se_var (G : Good Γ X top N sc c) {i : Nat} {x : Str} {pos : Pos} (h1 : N[i]? = some x) (h2 : vis sc x = true) (h3 : plainName x = true) : PE X (.Name x pos) (tEv X.K c (.var i)) := by
  obtain ⟨n1, n2, _⟩ := plainName_ok h3
  refine (pe_var (i := i) (by rw [G.hN]; exact h1) (vis_ok G.hsc h2) n1 n2).imp fun σ H Q ⟨F, sa, st, ρ, d, st', W, R, e, O⟩ => ?_
  simp only [evE] at e
  split at e
  · rename_i d' hd
    cases e
    obtain ⟨v, hv, q⟩ := R.at_ i d hd
    exact ⟨v, hv, O.same W q⟩
  · cases e
theorem dat_none {K : PySem.W.Frag} {F : Hp} {sa : List Addr} {v : V} {d : D} (h : Dat K (fun _ => none) [] v d) : Dat K F sa v d := h.mono (fun _ _ e => by cases e) ⟨sa, rfl⟩
theorem se_glob (G : Good Γ X top N sc c) {x : Str} {d : D} {pos : Pos} (h1 : (x, d) ∈ Γ.consts) (h2 : glb sc x = true) (h3 : plainName x = true) : PE X (.Name x pos) (tEv X.K c (.glob x d)) := by
  obtain ⟨n1, n2, _⟩ := plainName_ok h3
  obtain ⟨v, u, hm, r, q⟩ := G.cs x d h1
  refine (pe_glob (glb_ok G.hsc h2) hm r n1).imp fun σ H Q ⟨F, sa, st, ρ, d', st', W, R, e, O⟩ => ?_
  simp only [evE, Option.some.injEq, Prod.mk.injEq] at e
  obtain ⟨rfl, rfl⟩ := e
  exact O.same W (dat_none q)
theorem se_int {i : Int} {j pos} : PE X (.Constant (.int i) j pos) (tEv X.K c (.int i)) :=
  pe_int.imp fun σ H Q ⟨F, sa, st, ρ, d', st', W, R, e, O⟩ => by
    simp only [evE, Option.some.injEq, Prod.mk.injEq] at e
    obtain ⟨rfl, rfl⟩ := e
    exact O.same W (.int _)
theorem se_bl {i : Bool} {j pos} : PE X (.Constant (.bool i) j pos) (tEv X.K c (.bl i)) :=
  pe_bl.imp fun σ H Q ⟨F, sa, st, ρ, d', st', W, R, e, O⟩ => by
    simp only [evE, Option.some.injEq, Prod.mk.injEq] at e
    obtain ⟨rfl, rfl⟩ := e
    exact O.same W (.bl _)
theorem se_non {j pos} : PE X (.Constant .none j pos) (tEv X.K c .non) :=
  pe_non.imp fun σ H Q ⟨F, sa, st, ρ, d', st', W, R, e, O⟩ => by
    simp only [evE, Option.some.injEq, Prod.mk.injEq] at e
    obtain ⟨rfl, rfl⟩ := e
    exact O.same W .non
theorem se_str {i : Str} {j pos} : PE X (.Constant (.str i) j pos) (tEv X.K c (.str i)) :=
  pe_str.imp fun σ H Q ⟨F, sa, st, ρ, d', st', W, R, e, O⟩ => by
    simp only [evE, Option.some.injEq, Prod.mk.injEq] at e
    obtain ⟨rfl, rfl⟩ := e
    exact O.same W (.str _)

theorem se_nil : PA X [] (tEvs X.K c []) :=
  pa_nil.imp fun σ H Q ⟨F, sa, st, ρ, d', st', W, R, e, O⟩ => by
    simp only [evEs, Option.some.injEq, Prod.mk.injEq] at e
    obtain ⟨rfl, rfl⟩ := e
    exact O [] F sa H W .refl .nil
theorem se_cons {p : Expr} {ps : List Expr} {e : E} {es : List E} (hs : notStar p = true) (h1 : PE X p (tEv X.K c e)) (h2 : PA X ps (tEvs X.K c es)) : PA X (p :: ps) (tEvs X.K c (e :: es)) := by
  refine (pa_cons h1 h2 (star_cons hs)).imp fun σ H Q ⟨F, sa, st, ρ, ds, st', W, R, e, O⟩ => ?_
  simp only [evEs, Option.bind_eq_some_iff, Option.map_eq_some_iff] at e
  obtain ⟨⟨d1, st1⟩, e1, ⟨d2, st2⟩, e2, e3⟩ := e
  cases e3
  refine ⟨F, sa, st, ρ, d1, st1, W, R, e1, fun v1 F1 sa1 H1 W1 E1 q1 => ⟨F1, sa1, st1, ρ, d2, _, W1, R.ext E1, e2, fun v2 F2 sa2 H2 W2 E2 q2 => ?_⟩⟩
  exact O _ F2 sa2 H2 W2 (E1.trans E2) (.cons (q1.ext E2) q2)
theorem se_tup {ps : List Expr} {k pos} {es : List E} (h : PA X ps (tEvs X.K c es)) : PE X (.Tuple ps k pos) (tEv X.K c (.tup es)) := by
  refine (pe_tup h).imp fun σ H Q ⟨F, sa, st, ρ, d, st', W, R, e, O⟩ => ?_
  simp only [evE, Option.bind_eq_some_iff, Option.ite_none_right_eq_some, Option.some.injEq] at e
  obtain ⟨⟨ds, st1⟩, e1, hl, e2⟩ := e
  cases e2
  refine ⟨F, sa, st, ρ, ds, _, W, R, e1, fun vs F1 sa1 H1 W1 E1 q1 => ⟨by rw [q1.length]; exact lim_line hl, ?_⟩⟩
  exact (O.from E1).tup W1 q1
theorem se_lst {ps : List Expr} {pos} {es : List E} {b : Bool} (h : PA X ps (tEvs X.K c es)) : PE X (.List ps pos) (tEv X.K c (.lst b es)) := by
  refine (pe_lst h).imp fun σ H Q ⟨F, sa, st, ρ, d, st', W, R, e, O⟩ => ?_
  simp only [evE, Option.bind_eq_some_iff, Option.ite_none_right_eq_some] at e
  obtain ⟨⟨ds, st1⟩, e1, hl, e2⟩ := e
  refine ⟨F, sa, st, ρ, ds, _, W, R, e1, fun vs F1 sa1 H1 W1 E1 q1 => ⟨by rw [q1.length]; exact lim_line hl, ?_⟩⟩
  exact (O.from E1).newlst e2 W1 q1

theorem se_bin {o : Op} {p q : Expr} {pos} {a b : E} (h1 : PE X p (tEv X.K c a)) (h2 : PE X q (tEv X.K c b)) : PE X (.BinOp p (opOf o) q pos) (tEv X.K c (.bin o a b)) := by
  refine (pe_op (op_ok o) h1 h2).imp fun σ H Q ⟨F, sa, st, ρ, d, st', W, R, e, O⟩ => ?_
  simp only [evE, Option.bind_eq_some_iff, Option.map_eq_some_iff] at e
  obtain ⟨⟨d1, st1⟩, e1, ⟨d2, st2⟩, e2, d3, e3, e4⟩ := e
  cases e4
  refine ⟨F, sa, st, ρ, d1, st1, W, R, e1, fun v1 F1 sa1 H1 W1 E1 q1 => ⟨F1, sa1, st1, ρ, d2, _, W1, R.ext E1, e2, fun v2 F2 sa2 H2 W2 E2 q2 => ?_⟩⟩
  exact bin_ok W2 (rd_ok W2 (q1.ext E2)) (rd_ok W2 q2) e3 (O.from (E1.trans E2))
theorem se_neg {p : Expr} {pos} {a : E} (h1 : PE X p (tEv X.K c a)) : PE X (.UnaryOp .USub p pos) (tEv X.K c (.neg a)) := by
  refine (pe_un un_neg h1).imp fun σ H Q ⟨F, sa, st, ρ, d, st', W, R, e, O⟩ => ?_
  simp only [evE, Option.bind_eq_some_iff] at e
  obtain ⟨⟨d1, st1⟩, e1, e2⟩ := e
  refine ⟨F, sa, st, ρ, d1, st1, W, R, e1, fun v1 F1 sa1 H1 W1 E1 q1 => ?_⟩
  cases q1 <;> simp only [Option.some.injEq, Prod.mk.injEq] at e2 <;> try (cases e2; done)
  obtain ⟨rfl, rfl⟩ := e2
  exact ⟨_, rfl, (O.from E1).same W1 (.int _)⟩
theorem isBl_ok {K : PySem.W.Frag} {F : Hp} {sa : List Addr} {v : V} {d : D} {b : Bool} (q : Dat K F sa v d) (h : isBl d = some b) : v = .bl b := by
  cases q <;> simp [isBl] at h
  rw [h]
theorem se_not {p : Expr} {pos} {a : E} (h1 : PE X p (tEv X.K c a)) : PE X (.UnaryOp .Not p pos) (tEv X.K c (.not a)) := by
  refine (pe_not h1).imp fun σ H Q ⟨F, sa, st, ρ, d, st', W, R, e, O⟩ => ?_
  simp only [evE, Option.bind_eq_some_iff, Option.map_eq_some_iff] at e
  obtain ⟨⟨d1, st1⟩, e1, b, e2, e3⟩ := e
  cases e3
  refine ⟨F, sa, st, ρ, d1, _, W, R, e1, fun v1 F1 sa1 H1 W1 E1 q1 => ⟨b, isBl_ok q1 e2, ?_⟩⟩
  exact (O.from E1).same W1 (.bl _)
theorem se_and {p q : Expr} {r : List Expr} {pos} {a b : E} (h1 : PE X p (tEv X.K c a)) (h2 : PE X (.BoolOp .And (q :: r) pos) (tEv X.K c b)) : PE X (.BoolOp .And (p :: q :: r) pos) (tEv X.K c (.and a b)) := by
  refine (pe_and h1 h2).imp fun σ H Q ⟨F, sa, st, ρ, d, st', W, R, e, O⟩ => ?_
  simp only [evE, Option.bind_eq_some_iff] at e
  obtain ⟨⟨d1, st1⟩, e1, k, e2, e3⟩ := e
  refine ⟨F, sa, st, ρ, d1, _, W, R, e1, fun v1 F1 sa1 H1 W1 E1 q1 => ⟨k, isBl_ok q1 e2, ?_⟩⟩
  cases k with
  | true =>
    simp only [if_true] at e3 ⊢
    exact ⟨F1, sa1, st1, ρ, d, st', W1, R.ext E1, e3, O.from E1⟩
  | false =>
    simp only [Bool.false_eq_true, if_false, Option.some.injEq, Prod.mk.injEq] at e3 ⊢
    obtain ⟨rfl, rfl⟩ := e3
    exact (O.from E1).same W1 (.bl _)
theorem se_or {p q : Expr} {r : List Expr} {pos} {a b : E} (h1 : PE X p (tEv X.K c a)) (h2 : PE X (.BoolOp .Or (q :: r) pos) (tEv X.K c b)) : PE X (.BoolOp .Or (p :: q :: r) pos) (tEv X.K c (.or a b)) := by
  refine (pe_or h1 h2).imp fun σ H Q ⟨F, sa, st, ρ, d, st', W, R, e, O⟩ => ?_
  simp only [evE, Option.bind_eq_some_iff] at e
  obtain ⟨⟨d1, st1⟩, e1, k, e2, e3⟩ := e
  refine ⟨F, sa, st, ρ, d1, _, W, R, e1, fun v1 F1 sa1 H1 W1 E1 q1 => ⟨k, isBl_ok q1 e2, ?_⟩⟩
  cases k with
  | true =>
    simp only [if_true, Option.some.injEq, Prod.mk.injEq] at e3 ⊢
    obtain ⟨rfl, rfl⟩ := e3
    exact (O.from E1).same W1 (.bl _)
  | false =>
    simp only [Bool.false_eq_true, if_false] at e3 ⊢
    exact ⟨F1, sa1, st1, ρ, d, st', W1, R.ext E1, e3, O.from E1⟩
theorem se_ite {t p q : Expr} {pos} {k a b : E} (h0 : PT X t (tEvT X.K c k)) (h1 : PE X p (tEv X.K c a)) (h2 : PE X q (tEv X.K c b)) : PE X (.IfExp t p q pos) (tEv X.K c (.ite k a b)) := by
  refine (pe_ifExp h0 h1 h2).imp fun σ H Q ⟨F, sa, st, ρ, d, st', W, R, e, O⟩ => ?_
  simp only [evE, Option.bind_eq_some_iff] at e
  obtain ⟨⟨d1, st1⟩, e1, k, e2, e3⟩ := e
  refine ⟨F, sa, st, ρ, k, st1, W, R, by simp [evC, e1, e2], fun F1 sa1 H1 W1 E1 => ?_⟩
  cases k with
  | true =>
    simp only [if_true] at e3 ⊢
    exact ⟨F1, sa1, st1, ρ, d, st', W1, R.ext E1, e3, O.from E1⟩
  | false =>
    simp only [Bool.false_eq_true, if_false] at e3 ⊢
    exact ⟨F1, sa1, st1, ρ, d, st', W1, R.ext E1, e3, O.from E1⟩
theorem se_cmp (hu : X.A.units + 65 < cLine) {o : Cm} {p q : Expr} {pos} {a b : E} (hm : behindInMarks (cmOf o) q = false) (h1 : PE X p (tEv X.K c a)) (h2 : PE X q (tEv X.K c b)) : PE X (.Compare p [cmOf o] [q] pos) (tEv X.K c (.cmp o a b)) := by
  refine (pe_cmpR (cm_rule hu o) h1 h2 hm).imp fun σ H Q ⟨F, sa, st, ρ, d, st', W, R, e, O⟩ => ?_
  simp only [evE, Option.bind_eq_some_iff, Option.map_eq_some_iff] at e
  obtain ⟨⟨d1, st1⟩, e1, ⟨d2, st2⟩, e2, k, e3, e4⟩ := e
  cases e4
  refine ⟨F, sa, st, ρ, d1, st1, W, R, e1, fun v1 F1 sa1 H1 W1 E1 q1 => ⟨F1, sa1, st1, ρ, d2, _, W1, R.ext E1, e2, fun v2 F2 sa2 H2 W2 E2 q2 => ?_⟩⟩
  exact cm_ok W2 (rd_ok W2 (q1.ext E2)) (rd_ok W2 q2) e3 ((O.from (E1.trans E2)).same W2 (.bl _))
theorem se_chain (hu : X.A.units + 65 < cLine) {o o' : Cm} {p q r : Expr} {pos} {a b e : E} (hm : lastMarks [cmOf o, cmOf o'] [q, r] = false) (h1 : PE X p (tEv X.K c a)) (h2 : PE X q (tEv X.K c b)) (h3 : PE X r (tEv X.K c e)) :
    PE X (.Compare p [cmOf o, cmOf o'] [q, r] pos) (tEv X.K c (.chain o o' a b e)) := by
  refine (pe_chain (cm_rule hu o) (cm_rule hu o') h1 h2 h3 hm).imp fun σ H Q ⟨F, sa, st, ρ, d, st', W, R, e, O⟩ => ?_
  simp only [evE, Option.bind_eq_some_iff] at e
  obtain ⟨⟨d1, st1⟩, e1, ⟨d2, st2⟩, e2, k, e3, e4⟩ := e
  refine ⟨F, sa, st, ρ, d1, st1, W, R, e1, fun v1 F1 sa1 H1 W1 E1 q1 => ⟨F1, sa1, st1, ρ, d2, _, W1, R.ext E1, e2, fun v2 F2 sa2 H2 W2 E2 q2 => ?_⟩⟩
  refine cm_ok W2 (rd_ok W2 (q1.ext E2)) (rd_ok W2 q2) e3 ⟨k, rfl, ?_⟩
  cases k with
  | true =>
    simp only [if_true, Option.bind_eq_some_iff, Option.map_eq_some_iff] at e4 ⊢
    obtain ⟨⟨d3, st3⟩, e5, k', e6, e7⟩ := e4
    cases e7
    refine ⟨F2, sa2, st2, ρ, d3, _, W2, (R.ext E1).ext E2, e5, fun v3 F3 sa3 H3 W3 E3 q3 => ?_⟩
    exact cm_ok W3 (rd_ok W3 (q2.ext E3)) (rd_ok W3 q3) e6 ((O.from ((E1.trans E2).trans E3)).same W3 (.bl _))
  | false =>
    simp only [Bool.false_eq_true, if_false, Option.some.injEq, Prod.mk.injEq] at e4 ⊢
    obtain ⟨rfl, rfl⟩ := e4
    exact (O.from (E1.trans E2)).same W2 (.bl _)

theorem tb_ok {p : Expr} {e : E} : ∀ σ H Q, tEvT X.K c e σ H Q → tB (tEv X.K c e) σ H Q := fun σ H Q ⟨F, sa, st, ρ, b, st', W, R, h, O⟩ => by
  simp only [evC, Option.bind_eq_some_iff, Option.map_eq_some_iff] at h
  obtain ⟨⟨d1, st1⟩, e1, k, e2, e3⟩ := h
  cases e3
  exact ⟨F, sa, st, ρ, d1, _, W, R, e1, fun v1 F1 sa1 H1 W1 E1 q1 => ⟨b, isBl_ok q1 e2, O F1 sa1 H1 W1 E1⟩⟩
theorem st_val {p : Expr} {e : E} (h : PE X p (tEv X.K c e)) (he : ∀ whole, isTrue p X.env whole = (do let v ← whole; standAt p.pos; holding [v] (truthy v))) : PT X p (tEvT X.K c e) := (pt_val h he).imp (tb_ok (p := p))
theorem st_not {p : Expr} {pos} {a : E} (h1 : PT X p (tEvT X.K c a)) : PT X (.UnaryOp .Not p pos) (tEvT X.K c (.not a)) := by
  refine (pt_not h1).imp fun σ H Q ⟨F, sa, st, ρ, b, st', W, R, e, O⟩ => ?_
  simp only [evC, evE, Option.bind_eq_some_iff, Option.map_eq_some_iff] at e
  obtain ⟨⟨d0, st0⟩, ⟨⟨d1, st1⟩, e1, k, e2, e3⟩, k', e4, e5⟩ := e
  cases e3
  cases e5
  simp only [isBl, Option.some.injEq] at e4
  subst e4
  exact ⟨F, sa, st, ρ, k, _, W, R, by simp [evC, e1, e2], O⟩
theorem sw_and {p q : Expr} {r : List Expr} {pos} {a b : E} (h1 : PT X p (tEvT X.K c a)) (h2 : PW X (.BoolOp .And (q :: r) pos) (tEvT X.K c b)) : PW X (.BoolOp .And (p :: q :: r) pos) (tEvT X.K c (.and a b)) := by
  refine (pw_and h1 h2).imp fun σ H Q ⟨F, sa, st, ρ, d, st', W, R, e, O⟩ => ?_
  simp only [evC, evE, Option.bind_eq_some_iff, Option.map_eq_some_iff] at e
  obtain ⟨⟨d0, st0⟩, ⟨⟨d1, st1⟩, e1, k, e2, e3⟩, k', e4, e5⟩ := e
  cases e5
  refine ⟨F, sa, st, ρ, k, st1, W, R, by simp [evC, e1, e2], fun F1 sa1 H1 W1 E1 => ?_⟩
  cases k with
  | true =>
    simp only [if_true] at e3 ⊢
    exact ⟨F1, sa1, st1, ρ, _, _, W1, R.ext E1, by simp [evC, e3, e4], fun F2 sa2 H2 W2 E2 => O F2 sa2 H2 W2 (E1.trans E2)⟩
  | false =>
    simp only [Bool.false_eq_true, if_false, Option.some.injEq, Prod.mk.injEq] at e3 ⊢
    obtain ⟨rfl, rfl⟩ := e3
    simp only [isBl, Option.some.injEq] at e4
    subst e4
    exact O F1 sa1 H1 W1 E1
theorem sw_or {p q : Expr} {r : List Expr} {pos} {a b : E} (h1 : PT X p (tEvT X.K c a)) (h2 : PW X (.BoolOp .Or (q :: r) pos) (tEvT X.K c b)) : PW X (.BoolOp .Or (p :: q :: r) pos) (tEvT X.K c (.or a b)) := by
  refine (pw_or h1 h2).imp fun σ H Q ⟨F, sa, st, ρ, d, st', W, R, e, O⟩ => ?_
  simp only [evC, evE, Option.bind_eq_some_iff, Option.map_eq_some_iff] at e
  obtain ⟨⟨d0, st0⟩, ⟨⟨d1, st1⟩, e1, k, e2, e3⟩, k', e4, e5⟩ := e
  cases e5
  refine ⟨F, sa, st, ρ, k, st1, W, R, by simp [evC, e1, e2], fun F1 sa1 H1 W1 E1 => ?_⟩
  cases k with
  | true =>
    simp only [if_true, Option.some.injEq, Prod.mk.injEq] at e3 ⊢
    obtain ⟨rfl, rfl⟩ := e3
    simp only [isBl, Option.some.injEq] at e4
    subst e4
    exact O F1 sa1 H1 W1 E1
  | false =>
    simp only [Bool.false_eq_true, if_false] at e3 ⊢
    exact ⟨F1, sa1, st1, ρ, _, _, W1, R.ext E1, by simp [evC, e3, e4], fun F2 sa2 H2 W2 E2 => O F2 sa2 H2 W2 (E1.trans E2)⟩
theorem st_cmp (hu : X.A.units + 65 < cLine) {o : Cm} {p q : Expr} {pos} {a b : E} (hm : behindInMarks (cmOf o) q = false) (h1 : PE X p (tEv X.K c a)) (h2 : PE X q (tEv X.K c b)) : PT X (.Compare p [cmOf o] [q] pos) (tEvT X.K c (.cmp o a b)) := by
  refine (pt_cmpR (cm_rule hu o) h1 h2 hm).imp fun σ H Q ⟨F, sa, st, ρ, d, st', W, R, e, O⟩ => ?_
  simp only [evC, evE, Option.bind_eq_some_iff, Option.map_eq_some_iff] at e
  obtain ⟨⟨d0, st0⟩, ⟨⟨d1, st1⟩, e1, ⟨d2, st2⟩, e2, k, e3, e4⟩, k', e5, e6⟩ := e
  cases e4
  cases e6
  simp only [isBl, Option.some.injEq] at e5
  subst e5
  refine ⟨F, sa, st, ρ, d1, st1, W, R, e1, fun v1 F1 sa1 H1 W1 E1 q1 => ⟨F1, sa1, st1, ρ, d2, _, W1, R.ext E1, e2, fun v2 F2 sa2 H2 W2 E2 q2 => ?_⟩⟩
  exact cm_ok W2 (rd_ok W2 (q1.ext E2)) (rd_ok W2 q2) e3 ⟨_, rfl, O F2 sa2 H2 W2 (E1.trans E2)⟩
theorem st_chain (hu : X.A.units + 65 < cLine) {o o' : Cm} {p q r : Expr} {pos} {a b e : E} (hm : lastMarks [cmOf o, cmOf o'] [q, r] = false) (h1 : PE X p (tEv X.K c a)) (h2 : PE X q (tEv X.K c b)) (h3 : PE X r (tEv X.K c e)) :
    PT X (.Compare p [cmOf o, cmOf o'] [q, r] pos) (tEvT X.K c (.chain o o' a b e)) := by
  refine (pt_chain (cm_rule hu o) (cm_rule hu o') h1 h2 h3 hm).imp fun σ H Q h => ?_
  obtain ⟨F, sa, st, ρ, d1, st1, W, R, e1, O1⟩ := tb_ok (p := p) σ H Q h
  -- as the value's reading
  have key : ∀ (Q' : VK), tEv X.K c (.chain o o' a b e) σ H Q' → tChain (rCm X.K o) (rCm X.K o') (tEv X.K c a) (tEv X.K c b) (tEv X.K c e) σ H Q' := fun Q' hq => by
    obtain ⟨F, sa, st, ρ, d, st', W, R, e, O⟩ := hq
    simp only [evE, Option.bind_eq_some_iff] at e
    obtain ⟨⟨d1, st1⟩, e1, ⟨d2, st2⟩, e2, k, e3, e4⟩ := e
    refine ⟨F, sa, st, ρ, d1, st1, W, R, e1, fun v1 F1 sa1 H1 W1 E1 q1 => ⟨F1, sa1, st1, ρ, d2, _, W1, R.ext E1, e2, fun v2 F2 sa2 H2 W2 E2 q2 => ?_⟩⟩
    refine cm_ok W2 (rd_ok W2 (q1.ext E2)) (rd_ok W2 q2) e3 ⟨k, rfl, ?_⟩
    cases k with
    | true =>
      simp only [if_true, Option.bind_eq_some_iff, Option.map_eq_some_iff] at e4 ⊢
      obtain ⟨⟨d3, st3⟩, e5, k', e6, e7⟩ := e4
      cases e7
      refine ⟨F2, sa2, st2, ρ, d3, _, W2, (R.ext E1).ext E2, e5, fun v3 F3 sa3 H3 W3 E3 q3 => ?_⟩
      exact cm_ok W3 (rd_ok W3 (q2.ext E3)) (rd_ok W3 q3) e6 ((O.from ((E1.trans E2).trans E3)).same W3 (.bl _))
    | false =>
      simp only [Bool.false_eq_true, if_false, Option.some.injEq, Prod.mk.injEq] at e4 ⊢
      obtain ⟨rfl, rfl⟩ := e4
      exact (O.from (E1.trans E2)).same W2 (.bl _)
  exact key _ ⟨F, sa, st, ρ, d1, st1, W, R, e1, O1⟩

theorem se_call (G : Good Γ X top N sc c) {x : Str} {f n : Nat} {ps : List Expr} {es : List E} {p pos : Pos} (h1 : (x, f, n) ∈ Γ.defs) (h2 : glb sc x = true) (h3 : plainName x = true) (hs : ps.all notStar = true) (hl : ps.length = n)
    (h : PA X ps (tEvs X.K c es)) (he : ∀ ρ st ds st', evEs c es ρ st = some (ds, st') → ds.length = n) : PE X (.Call (.Name x p) ps [] pos) (tEv X.K c (.call f es)) := by
  obtain ⟨n1, n2, _⟩ := plainName_ok h3
  obtain ⟨a, fd, pz, k, hm, kp, FO, hr, hb⟩ := G.df x f n h1
  have key : ∀ σ H Q, tEv X.K c (.call f es) σ H Q → tCall (spEv X.K c.call f n) [] E0 (tEvs X.K c es) σ H Q := fun σ H Q ⟨F, sa, st, ρ, d, st', W, R, e, O⟩ => by
    simp only [evE, Option.bind_eq_some_iff] at e
    obtain ⟨⟨ds, st1⟩, e1, e2⟩ := e
    refine ⟨F, sa, st, ρ, ds, st1, W, R, e1, fun vs F1 sa1 H1 W1 E1 q1 => ⟨F1, sa1, st1, ds, d, st', ?_, W1.up, ?_, e2, (O.from E1).call W1⟩⟩
    · rw [List.append_nil, q1.length]; exact he _ _ _ _ e1
    · rw [List.append_nil]; exact q1
  cases ps with
  | nil =>
    refine (pe_call0 FO hr (glb_ok G.hsc h2) hm kp hb .nil pass0 n1).imp fun σ H Q hq => ?_
    have := key σ H Q hq
    obtain ⟨F, sa, st, ρ, ds, st1, W, R, e1, O⟩ := this
    cases es with
    | nil =>
      simp only [evEs, Option.some.injEq, Prod.mk.injEq] at e1
      obtain ⟨rfl, rfl⟩ := e1
      exact O [] F sa H W .refl .nil
    | cons e es =>
      have := he _ _ _ _ e1
      simp only [evEs, Option.bind_eq_some_iff, Option.map_eq_some_iff] at e1
      obtain ⟨_, _, _, _, e3⟩ := e1
      cases e3
      simp at this hl
      omega
  | cons q ps =>
    simp only [List.all_cons, Bool.and_eq_true] at hs
    exact (pe_call FO hr (glb_ok G.hsc h2) hm kp hb .nil pass0 h n1 (star_cons hs.1) (star_no hs.2)).imp key
theorem se_sub {p q : Expr} {pos} {a i : E} (hx : PlainIx q) (h1 : PE X p (tEv X.K c a)) (h2 : PE X q (tEv X.K c i)) : PE X (.Subscript p q pos) (tEv X.K c (.sub a i)) := by
  refine (pe_ix ix_seq h1 h2 hx).imp fun σ H Q ⟨F, sa, st, ρ, d, st', W, R, e, O⟩ => ?_
  simp only [evE, Option.bind_eq_some_iff, Option.map_eq_some_iff] at e
  obtain ⟨⟨d1, st1⟩, e1, ⟨d2, st2⟩, e2, d3, e3, e4⟩ := e
  cases e4
  refine ⟨F, sa, st, ρ, d1, st1, W, R, e1, fun v1 F1 sa1 H1 W1 E1 q1 => ⟨F1, sa1, st1, ρ, d2, _, W1, R.ext E1, e2, fun v2 F2 sa2 H2 W2 E2 q2 => ?_⟩⟩
  exact sub_ok W2 (rdR_ok W2 (q1.ext E2)) q2 e3 (O.from (E1.trans E2))
/-- a built-in's call -/
theorem se_prim (G : Good Γ X top N sc c) {pr : P} {nm : String × Bool} (hn : pName pr = some nm) (hin : nm.1 ∈ bNames) (hv : bootBuiltins (Str.ofString nm.1) = some (pVal nm)) {f : Bool} {q : Expr} {ps : List Expr} {es : List E} {p pos : Pos}
    (h2 : glb sc (Str.ofString nm.1) = true) (h3 : plainName (Str.ofString nm.1) = true) (hs : (q :: ps).all notStar = true) (h : PA X (q :: ps) (tEvs X.K c es)) :
    PE X (.Call (.Name (Str.ofString nm.1) p) (q :: ps) [] pos) (tEv X.K c (if f then .primB pr es else .prim pr es)) := by
  obtain ⟨n1, n2, n3⟩ := plainName_ok h3
  simp only [List.all_cons, Bool.and_eq_true] at hs
  have key : ∀ σ H Q, tEv X.K c (if f then .primB pr es else .prim pr es) σ H Q → tCB (rPrim X pr) (tEvs X.K c es) σ H Q := fun σ H Q ⟨F, sa, st, ρ, d, st', W, R, e, O⟩ => by
    have e' : ∃ ds st1, evEs c es ρ st = some (ds, st1) ∧ ∃ d', primD pr (ds.map (rdR st1)) = some d' ∧ new f d' st1 = some (d, st') := by
      cases f with
      | false =>
        simp only [Bool.false_eq_true, if_false, evE, Option.bind_eq_some_iff, Option.map_eq_some_iff] at e
        obtain ⟨⟨ds, st1⟩, e1, d', e2, e3⟩ := e
        cases e3
        exact ⟨ds, _, e1, d, e2, by simp [new]⟩
      | true =>
        simp only [if_true, evE, Option.bind_eq_some_iff] at e
        obtain ⟨⟨ds, st1⟩, e1, d', e2, e3⟩ := e
        exact ⟨ds, st1, e1, d', e2, e3⟩
    obtain ⟨ds, st1, e1, d', e2, e3⟩ := e'
    exact ⟨F, sa, st, ρ, ds, st1, W, R, e1, fun vs F1 sa1 H1 W1 E1 q1 => prim_ok hn W1 (rl_ok W1 q1) e2 e3 (O.from E1)⟩
  have hR := prim_rule (X := X) G.calm hn
  have hm := G.bl nm.1 hin
  obtain ⟨x, b⟩ := nm
  cases b with
  | true => exact (pe_callTy hR (glb_ok G.hsc h2) hm hv h n3 n1 (star_cons hs.1) (star_no hs.2)).imp key
  | false => exact (pe_callB hR (glb_ok G.hsc h2) hm hv h n3 n1 (star_cons hs.1) (star_no hs.2)).imp key
end
end Ev

namespace Ev
open PySem PySem.Spec PyProof.Rows L2
def tyStr : Ty → String
  | .int => "int" | .str => "str" | .bool => "bool" | .list => "list" | .tuple => "tuple"
def tyName : D → String
  | .non => "NoneType" | .bl _ => "bool" | .int _ => "int" | .str _ => "str" | .tup _ => "tuple" | .lst _ => "list" | .dct _ _ _ => "dict" | .box _ | .ro _ => "?"
def kitT (n : String) (T : Ty) : Bool := n == tyStr T || (n == "bool" && tyStr T == "int")
theorem kit_all : (["NoneType", "bool", "int", "str", "tuple", "list", "dict"].all fun n => [Ty.int, .str, .bool, .list, .tuple].all fun T => decide (kitB n (tyStr T) = some (kitT n T))) = true := by decide +kernel
theorem kit_one {n : String} {T : Ty} (h : n ∈ ["NoneType", "bool", "int", "str", "tuple", "list", "dict"]) : kitB n (tyStr T) = some (kitT n T) := by
  have h1 := List.all_eq_true.mp kit_all n h
  have h2 := List.all_eq_true.mp h1 T (by cases T <;> simp)
  exact of_decide_eq_true h2
theorem isTy_kit (d : D) (T : Ty) (h : ∀ n, d ≠ .box n) (h' : ∀ n, d ≠ .ro n) : isTy d T = kitT (tyName d) T := by
  cases d <;> cases T <;> first | rfl | (exfalso; exact h _ rfl) | (exfalso; exact h' _ rfl)
section
variable {K : PySem.W.Frag} {base : Nat} {F F' H H' : Hp} {sa sa' : List Addr} {st st' : Store}
theorem ty_ok {v : V} {d : D} (hs : Sub F H) (r : RdsR K F sa H v d) (h : ∀ n, d ≠ .box n) (h2 : ∀ t ks vs, d ≠ .dct t ks vs) : TyX K H v (.type (tyName d)) ∧ tyName d ∈ ["NoneType", "bool", "int", "str", "tuple", "list", "dict"] := by
  cases r with
  | non => exact ⟨.base .non, by simp [tyName]⟩
  | bl b => exact ⟨.base (.bl b), by simp [tyName]⟩
  | int i => exact ⟨.base (.int i), by simp [tyName]⟩
  | str x => exact ⟨.base (.str x), by simp [tyName]⟩
  | tup q r =>
    refine ⟨?_, by simp [tyName]⟩
    rcases sqt_sub hs q with (e | ⟨o, e⟩) | ⟨o, its, n, e, c, _⟩
    · exact .base (.tup e)
    · exact .fTuple e
    · exact .kTuple e c
  | lst q r =>
    refine ⟨?_, by simp [tyName]⟩
    rcases q with (e | ⟨o, e⟩) | ⟨o, its, n, e, c, _⟩
    · exact .base (.lst e)
    · exact .base (.frz e)
    · exact .kList e c
  | dct _ _ _ _ => exact absurd rfl (h2 _ _ _)
  | box e => exact absurd rfl (h _)
end
theorem tyx_junk {K : PySem.W.Frag} {H : Hp} {p : Addr} {o : HO} {v : V} {t : Value} (hp : H p = none) (h : TyX K H v t) : TyX K (upd H p o) v t := by
  cases h with
  | base b =>
    cases b with
    | non => exact .base .non
    | bl x => exact .base (.bl x)
    | int i => exact .base (.int i)
    | str x => exact .base (.str x)
    | flt x => exact .base (.flt x)
    | lst e => exact .base (.lst (by rw [upd_ne (ne_of_none e hp)]; exact e))
    | frz e => exact .base (.frz (by rw [upd_ne (ne_of_none e hp)]; exact e))
    | tup e => exact .base (.tup (by rw [upd_ne (ne_of_none e hp)]; exact e))
    | dK e => exact .base (.dK (by rw [upd_ne (ne_of_none e hp)]; exact e))
    | dT e => exact .base (.dT (by rw [upd_ne (ne_of_none e hp)]; exact e))
    | ins e a b c d f => exact .base (.ins (by rw [upd_ne (ne_of_none e hp)]; exact e) a b c d f)
  | byt b => exact .byt b
  | set e => exact .set (by rw [upd_ne (ne_of_none e hp)]; exact e)
  | kList e c => exact .kList e c
  | kTuple e c => exact .kTuple e c
  | kDict e c => exact .kDict e c
  | fTuple e => exact .fTuple (by rw [upd_ne (ne_of_none e hp)]; exact e)
  | fDict e => exact .fDict (by rw [upd_ne (ne_of_none e hp)]; exact e)
section
variable {X : Cx} {c : Ctx} {Γ : Gam} {top : Bool} {N : List Str} {sc : Scope}
theorem tyStr_in (T : Ty) : tyStr T ∈ bNames := by cases T <;> simp [tyStr, bNames]
theorem tyStr_boot (T : Ty) : bootBuiltins (Str.ofString (tyStr T)) = some (.type (tyStr T)) := by cases T <;> decide +kernel
theorem tyStr_plain (T : Ty) : plainName (Str.ofString (tyStr T)) = true := by cases T <;> decide +kernel
theorem pe_ty (G : Good Γ X top N sc c) {T : Ty} {pos} (h : glb sc (Str.ofString (tyStr T)) = true) : PE X (.Name (Str.ofString (tyStr T)) pos) (tC (.ty (tyStr T))) := by
  obtain ⟨n1, n2, n3⟩ := plainName_ok (tyStr_plain T)
  exact pe_bltn (v := .ty (tyStr T)) (glb_ok G.hsc h) (G.bl _ (tyStr_in T)) (tyStr_boot T) rfl n3 n1
theorem isin_val {d : D} {tys : List Ty} {d' : D} (h : primD (.isin tys) [d] = some d') : (∀ n, d ≠ .box n) ∧ (∀ t ks vs, d ≠ .dct t ks vs) ∧ (∀ n, d ≠ .ro n) ∧ d' = .bl (tys.any (isTy d)) := by
  cases d <;> simp [primD] at h ⊢ <;> exact h.symm
theorem kitAny_all {K : PySem.W.Frag} {n : String} (h : n ∈ ["NoneType", "bool", "int", "str", "tuple", "list", "dict"]) : ∀ tys : List Ty, PySem.W.kitAny K (.type n) (tys.map fun T => .type (tyStr T)) = some (tys.any fun T => kitT n T)
  | [] => kitAny_nil
  | T :: tys => by
    refine kitAny_cons (b := kitT n T) (kit_ty (kit_one h)) (fun e => ?_) (fun e => by simp [e])
    rw [kitAny_all h tys]; simp [e]
/-- isinstance(e, T) -/
theorem se_isi (G : Good Γ X top N sc c) {q : Expr} {a : E} {T : Ty} {p p2 pos : Pos} (hg : glb sc (Str.ofString "isinstance") = true) (hg2 : glb sc (Str.ofString (tyStr T)) = true) (hs : notStar q = true) (h1 : PE X q (tEv X.K c a)) :
    PE X (.Call (.Name (Str.ofString "isinstance") p) [q, .Name (Str.ofString (tyStr T)) p2] [] pos) (tEv X.K c (.prim (.isin [T]) [a])) := by
  refine (pe_callB call_isi (glb_ok G.hsc hg) (G.bl "isinstance" (by simp [bNames])) PyProof.Rows.boot_isinstance (pa_cons h1 (pa_cons (pe_ty G hg2) pa_nil) (star_cons hs)) (by decide +kernel) (by decide +kernel) (star_cons hs) rfl).imp fun σ H Q ⟨F, sa, st, ρ, d, st', W, R, e, O⟩ => ?_
  simp only [evE, evEs, Option.bind_eq_some_iff, Option.map_eq_some_iff] at e
  obtain ⟨⟨ds, st1⟩, ⟨⟨d1, st2⟩, e1, ⟨d2, st3⟩, e2, e3⟩, d', e4, e5⟩ := e
  simp only [Option.some.injEq, Prod.mk.injEq] at e2
  obtain ⟨rfl, rfl⟩ := e2
  cases e3
  cases e5
  refine ⟨F, sa, st, ρ, d1, _, W, R, e1, fun v1 F1 sa1 H1 W1 E1 q1 => ?_⟩
  obtain ⟨b1, b2, b3, rfl⟩ := isin_val (show primD (.isin [T]) [rdR st2 d1] = some d from e4)
  obtain ⟨ty, hin⟩ := ty_ok W1.sub (rdR_ok W1 q1) b1 b2
  refine ⟨v1, .ty (tyStr T), _, _, _, rfl, .ty _, ty, kit_ty (kit_one hin), ?_⟩
  have e6 : ([T].any (isTy (rdR st2 d1))) = kitT (tyName (rdR st2 d1)) T := by simp [isTy_kit _ _ b1 b3]
  rw [e6] at O
  exact (O.from E1).same W1 (.bl _)
theorem pa_tys (G : Good Γ X top N sc c) : ∀ {ps : List Expr} {tys : List Ty}, (∀ x ∈ tys, glb sc (Str.ofString (tyStr x)) = true) → Paired (fun p T => ∃ pos, p = .Name (Str.ofString (tyStr T)) pos) ps tys →
    PA X ps (fun _ H Q => Q (tys.map fun T => .ty (tyStr T)) H)
  | _, _, _, .nil => pa_nil
  | _, _, hg, .cons ⟨pos, e⟩ r => by
    subst e
    exact pa_cons (pe_ty G (hg _ List.mem_cons_self)) (pa_tys G (fun x hx => hg x (List.mem_cons_of_mem _ hx)) r) rfl
theorem cls_tys : ∀ tys : List Ty, Paired ClsV (tys.map fun T => V.ty (tyStr T)) (tys.map fun T => Value.type (tyStr T))
  | [] => .nil
  | T :: r => .cons (.ty _) (cls_tys r)
/-- isinstance(e, (T1, T2, ..)) -/
theorem se_isiT (G : Good Γ X top N sc c) {q : Expr} {a : E} {ps : List Expr} {tys : List Ty} {k : Nat} {p p2 pos : Pos} (hg : glb sc (Str.ofString "isinstance") = true) (hg2 : ∀ x ∈ tys, glb sc (Str.ofString (tyStr x)) = true)
    (hp : Paired (fun p T => ∃ pos, p = .Name (Str.ofString (tyStr T)) pos) ps tys) (hl : tys.length ≤ 100) (hs : notStar q = true) (h1 : PE X q (tEv X.K c a)) :
    PE X (.Call (.Name (Str.ofString "isinstance") p) [q, .Tuple ps k p2] [] pos) (tEv X.K c (.prim (.isin tys) [a])) := by
  refine (pe_callB call_isiT (glb_ok G.hsc hg) (G.bl "isinstance" (by simp [bNames])) PyProof.Rows.boot_isinstance (pa_cons h1 (pa_cons (pe_tup (pa_tys G hg2 hp)) pa_nil) (star_cons hs)) (by decide +kernel) (by decide +kernel) (star_cons hs) rfl).imp fun σ H Q ⟨F, sa, st, ρ, d, st', W, R, e, O⟩ => ?_
  simp only [evE, evEs, Option.bind_eq_some_iff, Option.map_eq_some_iff] at e
  obtain ⟨⟨ds, st1⟩, ⟨⟨d1, st2⟩, e1, ⟨d2, st3⟩, e2, e3⟩, d', e4, e5⟩ := e
  simp only [Option.some.injEq, Prod.mk.injEq] at e2
  obtain ⟨rfl, rfl⟩ := e2
  cases e3
  cases e5
  refine ⟨F, sa, st, ρ, d1, _, W, R, e1, fun v1 F1 sa1 H1 W1 E1 q1 => ⟨by rw [List.length_map, sizeLine_eq]; omega, fun t ht => ?_⟩⟩
  obtain ⟨b1, b2, b3, rfl⟩ := isin_val (show primD (.isin tys) [rdR st2 d1] = some d from e4)
  obtain ⟨ty, hin⟩ := ty_ok W1.sub (rdR_ok W1 q1) b1 b2
  refine ⟨v1, t, _, _, _, _, rfl, upd_same, cls_tys tys, tyx_junk ht ty, kitAny_all hin tys, ?_⟩
  have e6 : (tys.any (isTy (rdR st2 d1))) = tys.any fun T => kitT (tyName (rdR st2 d1)) T := by
    congr 1; funext T; exact isTy_kit _ _ b1 b3
  rw [e6] at O
  exact ((O.from E1).from (.junk ht)).same (W1.junk ht) (.bl _)

def tEvO (K : PySem.W.Frag) (c : Ctx) (o : Option E) : TO := fun σ H Q => ∃ F sa st ρ i st', Wd K c.base F sa st H ∧ Rho K F sa σ ρ ∧ evO c o ρ st = some (i, st') ∧ ∀ F' sa' H', Wd K c.base F' sa' st' H' → Ext c.base F sa st H F' sa' st' H' → Q i H'
theorem _root_.L2.PO.imp {X : Cx} {e : Option Expr} {t t' : TO} (h : PO X e t) (i : ∀ σ H Q, t' σ H Q → t σ H Q) : PO X e t' := ⟨fun p s σ H Q I q => h.run p s σ H Q I (i σ H Q q)⟩
theorem so_none : PO X none (tEvO X.K c none) := po_none.imp fun σ H Q ⟨F, sa, st, ρ, i, st', W, R, e, O⟩ => by
  simp only [evO, Option.some.injEq, Prod.mk.injEq] at e
  obtain ⟨rfl, rfl⟩ := e
  exact O F sa H W .refl
theorem so_some {p : Expr} {a : E} (h : PE X p (tEv X.K c a)) : PO X (some p) (tEvO X.K c (some a)) := (po_some h).imp fun σ H Q ⟨F, sa, st, ρ, i, st', W, R, e, O⟩ => by
  simp only [evO, Option.bind_eq_some_iff] at e
  obtain ⟨⟨d1, st1⟩, e1, e2⟩ := e
  refine ⟨F, sa, st, ρ, d1, st1, W, R, e1, fun v1 F1 sa1 H1 W1 E1 q1 => ?_⟩
  cases q1 <;> simp only [Option.some.injEq, Prod.mk.injEq] at e2 <;> try (cases e2; done)
  obtain ⟨rfl, rfl⟩ := e2
  exact ⟨_, rfl, O F1 sa1 H1 W1 E1⟩
theorem se_cut {p : Expr} {lo hi : Option Expr} {p2 pos} {a : E} {l h : Option E} (h1 : PE X p (tEv X.K c a)) (h2 : PO X lo (tEvO X.K c l)) (h3 : PO X hi (tEvO X.K c h)) : PE X (.Subscript p (.Slice lo hi none p2) pos) (tEv X.K c (.cut a l h)) := by
  refine (pe_slice (sl_list.or sl_tupA) h1 h2 h3).imp fun σ H Q ⟨F, sa, st, ρ, d, st', W, R, e, O⟩ => ?_
  simp only [evE, Option.bind_eq_some_iff] at e
  obtain ⟨⟨d1, st1⟩, e1, ⟨i, st2⟩, e2, ⟨j, st3⟩, e3, e4⟩ := e
  refine ⟨F, sa, st, ρ, d1, st1, W, R, e1, fun v1 F1 sa1 H1 W1 E1 q1 => ⟨F1, sa1, st1, ρ, i, st2, W1, R.ext E1, e2, fun F2 sa2 H2 W2 E2 => ⟨F2, sa2, st2, ρ, j, st3, W2, (R.ext E1).ext E2, e3, fun F3 sa3 H3 W3 E3 => ?_⟩⟩⟩
  have e5 : cutR (rd st3 d1) i j = some d ∧ st' = st3 := by
    revert e4
    cases rd st3 d1 <;> simp [cutR] <;> exact fun a b => ⟨a, b.symm⟩
  obtain ⟨e5, rfl⟩ := e5
  exact cut_ok W3 (rd_ok W3 ((q1.ext E2).ext E3)) e5 (O.from ((E1.trans E2).trans E3))
end

section
variable {K : PySem.W.Frag} {base : Nat} {F F' H H' : Hp} {sa sa' : List Addr} {st st' : Store}
theorem nodup_at {l : List Addr} (h : l.Nodup) {i j : Nat} {a : Addr} (h1 : l[i]? = some a) (h2 : l[j]? = some a) : i = j := by
  obtain ⟨l1, e1⟩ := List.getElem?_eq_some_iff.mp h1
  obtain ⟨l2, e2⟩ := List.getElem?_eq_some_iff.mp h2
  have p := List.pairwise_iff_getElem.mp h
  rcases Nat.lt_trichotomy i j with z | z | z
  · exact absurd (e1.trans e2.symm) (p i j l1 l2 z)
  · exact z
  · exact absurd (e2.trans e1.symm) (p j i l2 l1 z)
theorem Wd.write (W : Wd K base F sa st H) {n : Nat} {a : Addr} {b b' : B} {o : HO} (hn : sa[n]? = some a) (hb : st[n]? = some b) (hd : b ≠ .dead) (hu : ∀ m, m ≤ base → n < m → OldOk m st → b'.under m = true)
    (hB : BoxAt K F sa (upd H a o) a b') (hd' : b' ≠ .dead) : Wd K base F sa (st.set n b') (upd H a o) ∧ Ext base F sa st H F sa (st.set n b') (upd H a o) := by
  have fa : F a = none := W.out n a b hn hb hd
  have old : ∀ m, m ≤ base → OldOk m st → OldOk m (st.set n b') := fun m hm h i x hi e => by
    by_cases z : n = i
    · subst z
      rw [List.getElem?_set] at e
      split at e
      · split at e
        · cases e; exact hu m hm hi h
        · cases e
      · rename_i q; exact absurd rfl q
    · rw [List.getElem?_set_ne z] at e; exact h i x hi e
  refine ⟨⟨fun x u e => ?_, by simp [W.len], W.nd, fun i x u h1 h2 h3 => ?_, fun x hx => ?_, fun i x u h1 h2 => ?_, old base (Nat.le_refl _) W.old, by simpa using W.le⟩, ⟨.refl _, .refl _, fun x u e hx => ?_, fun _ h h' => absurd h h', old, fun _ _ h => .inl h⟩⟩
  · have : x ≠ a := fun z => by rw [z, fa] at e; cases e
    rw [upd_ne this]; exact W.sub x u e
  · by_cases z : n = i
    · subst z
      rw [hn] at h1; cases h1; exact fa
    · rw [List.getElem?_set_ne z] at h2; exact W.out i x u h1 h2 h3
  · by_cases z : x = a
    · subst z; rw [upd_same]; exact fun q => nomatch q
    · rw [upd_ne z]; exact W.there x hx
  · by_cases z : n = i
    · subst z
      rw [hn] at h1; cases h1
      rw [List.getElem?_set] at h2
      split at h2
      · split at h2
        · cases h2; exact hB
        · cases h2
      · rename_i q; exact absurd rfl q
    · rw [List.getElem?_set_ne z] at h2
      have : x ≠ a := fun q => z (nodup_at W.nd hn (q ▸ h1))
      exact (W.box i x u h1 h2).stable (.refl _) (.refl _) (upd_ne this)
  · have : x ≠ a := fun z => hx (z ▸ List.mem_of_getElem? hn)
    rw [upd_ne this]; exact e
/-- a list's box is handed on as data -/
theorem Wd.freeze (W : Wd K base F sa st H) {n : Nat} {a : Addr} {vs : List V} {ds : List D} (hn : sa[n]? = some a) (hb : st[n]? = some (.lst ds)) (hl : base ≤ n) (hH : H a = some (.lst vs)) :
    Wd K base (upd F a (.lst vs)) sa (st.set n .dead) H ∧ Ext base F sa st H (upd F a (.lst vs)) sa (st.set n .dead) H := by
  have fa : F a = none := W.out n a _ hn hb (fun z => nomatch z)
  have old : ∀ m, m ≤ base → OldOk m st → OldOk m (st.set n .dead) := fun m hm h i x hi e => by
    have z : n ≠ i := by omega
    rw [List.getElem?_set_ne z] at e; exact h i x hi e
  refine ⟨⟨fun x u e => ?_, by simp [W.len], W.nd, fun i x u h1 h2 h3 => ?_, W.there, fun i x u h1 h2 => ?_, old base (Nat.le_refl _) W.old, by simpa using W.le⟩, ⟨sub_upd fa, .refl _, fun _ _ e _ => e, fun _ h h' => absurd h h', old, fun x u e => ?_⟩⟩
  · by_cases z : x = a
    · subst z; rw [upd_same] at e; cases e; exact hH
    · rw [upd_ne z] at e; exact W.sub x u e
  · by_cases z : n = i
    · subst z
      rw [List.getElem?_set] at h2
      split at h2
      · split at h2 <;> first | (cases h2; exact absurd rfl h3) | cases h2
      · rename_i q; exact absurd rfl q
    · rw [List.getElem?_set_ne z] at h2
      have : x ≠ a := fun q => z (nodup_at W.nd hn (q ▸ h1))
      rw [upd_ne this]; exact W.out i x u h1 h2 h3
  · by_cases z : n = i
    · subst z
      rw [List.getElem?_set] at h2
      split at h2
      · split at h2 <;> first | (cases h2; trivial) | cases h2
      · rename_i q; exact absurd rfl q
    · rw [List.getElem?_set_ne z] at h2
      exact (W.box i x u h1 h2).stable (sub_upd fa) (.refl _) rfl
  · by_cases z : x = a
    · rw [z]; exact .inr (.inr (List.mem_of_getElem? hn))
    · rw [upd_ne z] at e; exact .inl e
theorem box_at (W : Wd K base F sa st H) {v : V} {n : Nat} {b : B} (q : Dat K F sa v (.box n)) (e : st[n]? = some b) : ∃ a, v = .ref a ∧ sa[n]? = some a ∧ BoxAt K F sa H a b := by
  cases q with
  | box h => exact ⟨_, rfl, h, W.box n _ b h e⟩
theorem under_put {base n : Nat} {d : D} (h : base ≤ n ∨ D.under 0 d = true) : ∀ m, m ≤ base → n < m → D.under m d = true := fun m hm hn => by
  rcases h with h | h
  · omega
  · exact under_mono (Nat.zero_le _) _ h
end
section
variable {X : Cx} {c : Ctx}
def plainBase : Expr → Bool
  | .Call (.Name _ _) [] [] _ => false
  | _ => true
theorem base_ok {o : Expr} {m : Str} {env : PySem.Env} {w : Sem Value} (h : plainBase o = true) : attributeBase o m env w = w := by
  unfold attributeBase
  split
  · simp [plainBase] at h
  · rfl
theorem few_one {e : Expr} {env : PySem.Env} {cpos : Pos} (h : notStar e = true) : ((backTo cpos (starEach [e] env)).all (fun x => !x.1) && (backToKw cpos (keywordEach [] env)).all (fun x => x.1.isSome)
      && decide (([e] : List Expr).length + ([] : List Keyword).length + (if ([] : List Keyword).isEmpty then 0 else 1) < 30)) = true := by
  rw [star_cons h]; rfl
theorem put_old {base n : Nat} {st st' : Store} {d : D} {b : B} (h : put base st n d b = some st') : (base ≤ n ∨ D.under 0 d = true) ∧ st' = st.set n b := by
  unfold put at h
  split at h
  · cases h; exact ⟨by assumption, rfl⟩
  · cases h
theorem tyV_lb {K : PySem.W.Frag} {base : Nat} {F H : Hp} {sa : List Addr} {st : Store} {v : V} {d : D} (W : Wd K base F sa st H) (q : Dat K F sa v d) (h : isLB d st = true) : tyV K "list" v H := by
  unfold isLB at h
  split at h <;> try (cases h; done)
  split at h <;> try (cases h; done)
  rename_i n ds e
  obtain ⟨a, rfl, hn, vs, hH, r⟩ := box_at W q e
  exact .inl ⟨rfl, _, .of hH⟩
/-- o.append(e) -/
theorem se_append {o q : Expr} {apos cpos : Pos} {a e : E} (hb : plainBase o = true) (hs : notStar q = true) (hl : (apos.endLine == cpos.line) = true) (h1 : PE X o (tEv X.K c a)) (h2 : PE X q (tEv X.K c e)) :
    PE X (.Call (.Attribute o "append" apos) [q] [] cpos) (tEv X.K c (.append a e)) := by
  refine (pe_bm PySem.F.plainAttrs_list PySem.F.slot_list_append PySem.F.type_list_append mt_append h1 (pa_cons h2 pa_nil (star_cons hs)) (base_ok hb) (few_one hs) hl (star_cons hs) rfl).imp fun σ H Q ⟨F, sa, st, ρ, d, st', W, R, e, O⟩ => ?_
  simp only [evE, Option.bind_eq_some_iff, Option.ite_none_right_eq_some] at e
  obtain ⟨⟨d1, st1⟩, e1, hlb, ⟨d2, st2⟩, e2, e3⟩ := e
  simp only [appendD] at e3
  split at e3 <;> try (cases e3; done)
  rename_i n
  split at e3 <;> try (cases e3; done)
  rename_i ds hds
  simp only [Option.ite_none_right_eq_some, Option.map_eq_some_iff, Prod.mk.injEq] at e3
  obtain ⟨hlim, st3, hp, rfl, rfl⟩ := e3
  obtain ⟨hold, rfl⟩ := put_old hp
  refine ⟨F, sa, st, ρ, .box n, st1, W, R, e1, fun v1 F1 sa1 H1 W1 E1 q1 => ⟨?_, F1, sa1, st1, ρ, d2, st2, W1, R.ext E1, e2, fun v2 F2 sa2 H2 W2 E2 q2 => ?_⟩⟩
  · exact tyV_lb W1 q1 hlb
  · obtain ⟨a, rfl, hn, vs, hH, r⟩ := box_at W2 (q1.ext E2) hds
    have und : ∀ m, m ≤ c.base → n < m → OldOk m st2 → (B.lst (ds ++ [d2])).under m = true := fun m hm hn h => by
      have h1 := h n _ hn hds
      simp only [B.under] at h1 ⊢
      rw [unders_append, h1]
      simp [D.unders, under_put hold m hm hn]
    obtain ⟨W3, E3⟩ := W2.write (o := .lst (vs ++ [v2])) hn hds (fun z => nomatch z) und ⟨_, upd_same, r.append (.one q2)⟩ (fun z => nomatch z)
    exact ⟨_, _, _, rfl, rfl, hH, by rw [r.length, sizeLine_eq]; unfold LIM at hlim; omega, ((O.from (E1.trans E2)).from E3).same W3 .non⟩
end
end Ev

namespace Ev
open PySem PySem.Spec PyProof.Rows L2
def Lx (xs : List (Str × V)) : List (Key × V) := xs.map fun p => (Sum.inr p.1, p.2)
theorem look_str (x : Str) : ∀ xs : List (Str × V), (∃ i v, kfind (xs.map fun p => D.str p.1) (.str x) = some i ∧ xs[i]? = some (x, v) ∧ valV (Lx xs) (Sum.inr x) = some v) ∨
    (kfind (xs.map fun p => D.str p.1) (.str x) = none ∧ valV (Lx xs) (Sum.inr x) = none ∧ x ∉ xs.map (·.1))
  | [] => .inr ⟨rfl, rfl, by simp⟩
  | p :: xs => by
    have e1 : kfind ((p :: xs).map fun p => D.str p.1) (.str x) = if p.1 == x then some 0 else (kfind (xs.map fun p => D.str p.1) (.str x)).map (· + 1) := rfl
    by_cases h : p.1 = x
    · refine .inl ⟨0, p.2, by rw [e1]; simp [h], by simp [← h], ?_⟩
      exact valV_pos (by simp [h])
    · have hb : (p.1 == x) = false := by simpa using h
      have e2 : valV (Lx (p :: xs)) (Sum.inr x) = valV (Lx xs) (Sum.inr x) := valV_neg (by simpa using h)
      rcases look_str x xs with ⟨i, v, a1, a2, a3⟩ | ⟨a1, a2, a3⟩
      · exact .inl ⟨i + 1, v, by rw [e1, hb, a1]; rfl, by simpa using a2, by rw [e2]; exact a3⟩
      · refine .inr ⟨by rw [e1, hb, a1]; rfl, by rw [e2]; exact a2, ?_⟩
        simp only [List.map_cons, List.mem_cons, not_or]
        exact ⟨fun z => h z.symm, a3⟩
def sput (xs : List (Str × V)) (x : Str) (v : V) : List (Str × V) := match kfind (xs.map fun p => D.str p.1) (.str x) with
  | some i => xs.set i (x, v)
  | none => xs ++ [(x, v)]
theorem map_set_key {x : Str} {v : V} : ∀ {xs : List (Str × V)} {i : Nat} {w : V}, (xs.map (·.1)).Nodup → xs[i]? = some (x, w) → (xs.map fun p => if p.1 = x then (p.1, v) else p) = xs.set i (x, v)
  | [], i, w, _, h => by simp at h
  | p :: xs, 0, w, nd, h => by
    simp only [List.length_cons, Nat.zero_lt_succ, List.getElem?_cons_zero, Option.some.injEq] at h
    subst h
    simp only [List.map_cons, List.nodup_cons] at nd
    simp only [List.map_cons, if_true, List.set_cons_zero, List.cons.injEq, true_and]
    have : ∀ q ∈ xs, q.1 ≠ x := fun q hq z => nd.1 (by rw [← z]; exact List.mem_map_of_mem hq)
    conv => rhs; rw [← List.map_id xs]
    exact List.map_congr_left fun q hq => by rw [if_neg (this q hq)]; rfl
  | p :: xs, i + 1, w, nd, h => by
    simp only [List.getElem?_cons_succ] at h
    simp only [List.map_cons, List.nodup_cons] at nd
    have hx : p.1 ≠ x := fun z => nd.1 (by rw [z]; exact List.mem_map.mpr ⟨(x, w), List.mem_of_getElem? h, rfl⟩)
    simp only [List.map_cons, List.set_cons_succ]
    rw [if_neg hx, map_set_key nd.2 h]
theorem putK_sput {xs : List (Str × V)} {x : Str} {v : V} (nd : (xs.map (·.1)).Nodup) : putK (Lx xs) (Sum.inr x) v = Lx (sput xs x v) ∧ ((sput xs x v).map (·.1)).Nodup := by
  unfold sput
  rcases look_str x xs with ⟨i, w, a1, a2, a3⟩ | ⟨a1, a2, a3⟩
  · rw [a1]
    have hany : ((Lx xs).any fun kv => decide (kv.1 = Sum.inr x)) = true := by rw [valV_any, a3]; rfl
    refine ⟨?_, ?_⟩
    · unfold putK
      rw [if_pos hany]
      show _ = Lx (xs.set i (x, v))
      rw [← map_set_key nd a2]
      unfold Lx
      rw [List.map_map, List.map_map]
      refine List.map_congr_left fun p _ => ?_
      show (if (Sum.inr p.1 : Key) = Sum.inr x then _ else _) = _
      by_cases z : p.1 = x
      · simp [z]
      · have : ¬ (Sum.inr p.1 : Key) = Sum.inr x := fun q => z (Sum.inr.inj q)
        simp [z]
    · show ((xs.set i (x, v)).map (·.1)).Nodup
      have : (xs.set i (x, v)).map (·.1) = xs.map (·.1) := by
        rw [List.map_set]
        apply List.ext_getElem?
        intro j
        by_cases z : i = j
        · subst z
          have hi := (List.getElem?_eq_some_iff.mp a2).1
          rw [List.getElem?_set_self (by simpa using hi)]
          simp [a2]
        · rw [List.getElem?_set_ne z]
      rw [this]; exact nd
  · rw [a1]
    refine ⟨?_, ?_⟩
    · rw [putK_new v a2]
      show _ = Lx (xs ++ [(x, v)])
      simp [Lx]
    · show ((xs ++ [(x, v)]).map (·.1)).Nodup
      rw [List.map_append, List.nodup_append]
      refine ⟨nd, by simp, fun y hy z hz => ?_⟩
      have : z = x := by simpa using hz
      subst this
      exact fun e => a3 (e ▸ hy)
section
variable {K : PySem.W.Frag} {base : Nat} {F F' H H' : Hp} {sa sa' : List Addr} {st st' : Store}
theorem keys_str : ∀ {xs : List (Str × V)} {ks : List D}, Dats K F sa (xs.map fun p => V.str p.1) ks → ks = xs.map fun p => D.str p.1
  | [], _, h => by cases h; rfl
  | p :: xs, _, h => by
    cases h with
    | cons q r =>
      cases q
      rw [keys_str r]; rfl
theorem strs_keys : ∀ (xs : List (Str × V)), Dats K F sa (xs.map fun p => V.str p.1) (xs.map fun p => D.str p.1)
  | [] => .nil
  | p :: xs => .cons (.str _) (strs_keys xs)
theorem dats_sput {xs : List (Str × V)} {vs : List D} {x : Str} {v : V} {d : D} (r : Dats K F sa (xs.map (·.2)) vs) (q : Dat K F sa v d) :
    Dats K F sa ((sput xs x v).map fun p => V.str p.1) (dput (xs.map fun p => D.str p.1) vs (.str x) d).1 ∧ Dats K F sa ((sput xs x v).map (·.2)) (dput (xs.map fun p => D.str p.1) vs (.str x) d).2 := by
  unfold sput dput
  rcases look_str x xs with ⟨i, w, a1, a2, a3⟩ | ⟨a1, a2, a3⟩
  · rw [a1]
    refine ⟨?_, ?_⟩
    · show Dats K F sa ((xs.set i (x, v)).map _) (xs.map _)
      have : (xs.set i (x, v)).map (fun p => V.str p.1) = xs.map fun p => V.str p.1 := by
        rw [List.map_set]
        apply List.ext_getElem?
        intro j
        by_cases z : i = j
        · subst z
          have hi := (List.getElem?_eq_some_iff.mp a2).1
          rw [List.getElem?_set_self (by simpa using hi)]
          simp [a2]
        · rw [List.getElem?_set_ne z]
      rw [this]; exact strs_keys xs
    · show Dats K F sa ((xs.set i (x, v)).map _) (vs.set i d)
      rw [List.map_set]; exact r.set q i
  · rw [a1]
    refine ⟨?_, ?_⟩
    · show Dats K F sa ((xs ++ [(x, v)]).map _) (_ ++ [.str x])
      rw [List.map_append]; exact (strs_keys xs).append (.one (.str x))
    · show Dats K F sa ((xs ++ [(x, v)]).map _) (vs ++ [d])
      rw [List.map_append]; exact r.append (.one q)
/-- a dict of texts, found by a key -/
theorem dget_str {xs : List (Str × V)} {vs : List D} {x : Str} (r : Dats K F sa (xs.map (·.2)) vs) :
    (∃ v d, valV (Lx xs) (Sum.inr x) = some v ∧ dget (xs.map fun p => D.str p.1) vs (.str x) = some d ∧ Dat K F sa v d) ∨ (valV (Lx xs) (Sum.inr x) = none ∧ dget (xs.map fun p => D.str p.1) vs (.str x) = none) := by
  unfold dget
  rcases look_str x xs with ⟨i, w, a1, a2, a3⟩ | ⟨a1, a2, a3⟩
  · obtain ⟨d, e, q⟩ := r.getV (i := i) (v := w) (by rw [List.getElem?_map, a2]; rfl)
    exact .inl ⟨w, d, a3, by rw [a1]; exact e, q⟩
  · exact .inr ⟨a2, by rw [a1]; rfl⟩
end

section
variable {K : PySem.W.Frag} {base : Nat} {F F1 H H0 H1 : Hp} {sa sa1 : List Addr} {st st0 st1 : Store} {p : Addr} {o : HO} {b : B}
theorem ne_in {x : Addr} (hn : p ∉ sa) (h : x ∈ sa) : x ≠ p := fun z => hn (by rw [← z]; exact h)
theorem Wd.junk2 (W : Wd K base F sa st H) (hf : F p = none) (hn : p ∉ sa) : Wd K base F sa st (upd H p o) where
  sub := fun x u e => by rw [upd_ne (ne_of_none e hf)]; exact W.sub x u e
  len := W.len
  nd := W.nd
  out := W.out
  there := fun x h => by rw [upd_ne (ne_in hn h)]; exact W.there x h
  box := fun n x c h1 h2 => (W.box n x c h1 h2).stable (.refl _) (.refl _) (upd_ne (ne_in hn (List.mem_of_getElem? h1)))
  old := W.old
  le := W.le
theorem Wd.frozen2 (W : Wd K base F sa st H) (hf : F p = none) (hn : p ∉ sa) : Wd K base (upd F p o) sa st (upd H p o) where
  sub := fun x u e => by
    by_cases h : x = p
    · subst h; rw [upd_same] at e ⊢; exact e
    · rw [upd_ne h] at e ⊢; exact W.sub x u e
  len := W.len
  nd := W.nd
  out := fun n x c h1 h2 h3 => by rw [upd_ne (ne_in hn (List.mem_of_getElem? h1))]; exact W.out n x c h1 h2 h3
  there := fun x h => by rw [upd_ne (ne_in hn h)]; exact W.there x h
  box := fun n x c h1 h2 => (W.box n x c h1 h2).stable (sub_upd hf) (.refl _) (upd_ne (ne_in hn (List.mem_of_getElem? h1)))
  old := W.old
  le := W.le
theorem Wd.boxed2 (W : Wd K base F sa st H) (hf : F p = none) (hnp : p ∉ sa) (hb : BoxAt K F sa (upd H p o) p b) : Wd K base F (sa ++ [p]) (st ++ [b]) (upd H p o) where
  sub := fun x u e => by rw [upd_ne (ne_of_none e hf)]; exact W.sub x u e
  len := by simp [W.len]
  nd := nodup_snoc W.nd hnp
  out := fun n x c h1 h2 h3 => by
    by_cases hn : n < sa.length
    · rw [List.getElem?_append_left hn] at h1
      rw [List.getElem?_append_left (by rw [← W.len]; exact hn)] at h2
      exact W.out n x c h1 h2 h3
    · have e : n = sa.length := by
        have := (List.getElem?_eq_some_iff.mp h1).1
        simp at this; omega
      subst e
      simp at h1
      subst h1
      exact hf
  there := fun x h => by
    rcases List.mem_append.mp h with h | h
    · rw [upd_ne (ne_in hnp h)]; exact W.there x h
    · have e : x = p := by simpa using h
      subst e
      rw [upd_same]; exact fun z => nomatch z
  box := fun n x c h1 h2 => by
    by_cases hn : n < sa.length
    · rw [List.getElem?_append_left hn] at h1
      rw [List.getElem?_append_left (by rw [← W.len]; exact hn)] at h2
      exact (W.box n x c h1 h2).stable (.refl _) ⟨_, rfl⟩ (upd_ne (ne_in hnp (List.mem_of_getElem? h1)))
    · have e : n = sa.length := by
        have := (List.getElem?_eq_some_iff.mp h1).1
        simp at this; omega
      subst e
      simp at h1
      rw [W.len] at h2
      simp at h2
      subst h1 h2
      exact hb.stable (.refl _) ⟨_, rfl⟩ rfl
  old := W.old.snoc W.le
  le := by simp; have := W.le; omega
theorem Ext.junk2 (E : Ext base F sa st0 H0 F1 sa1 st1 H1) (hp : H0 p = none) : Ext base F sa st0 H0 F1 sa1 st1 (upd H1 p o) :=
  ⟨E.sub, E.pre, fun x u e hx => by rw [upd_ne (ne_of_none e hp)]; exact E.fr x u e hx, E.new, E.old, E.fz⟩
theorem Ext.frozen2 (E : Ext base F sa st0 H0 F1 sa1 st1 H1) (hp : H0 p = none) (hf : F1 p = none) : Ext base F sa st0 H0 (upd F1 p o) sa1 st1 (upd H1 p o) :=
  ⟨E.sub.trans (sub_upd hf), E.pre, fun x u e hx => by rw [upd_ne (ne_of_none e hp)]; exact E.fr x u e hx, E.new, E.old, fun x u e => by
    by_cases z : x = p
    · rw [z]; exact .inr (.inl hp)
    · rw [upd_ne z] at e; exact E.fz x u e⟩
theorem Ext.boxed2 (E : Ext base F sa st0 H0 F1 sa1 st1 H1) (W : Wd K base F1 sa1 st1 H1) (hp : H0 p = none) : Ext base F sa st0 H0 F1 (sa1 ++ [p]) (st1 ++ [b]) (upd H1 p o) :=
  ⟨E.sub, E.pre.trans ⟨_, rfl⟩, fun x u e hx => by rw [upd_ne (ne_of_none e hp)]; exact E.fr x u e hx, fun x h h' => by
    rcases List.mem_append.mp h with h | h
    · exact E.new x h h'
    · have e : x = p := by simpa using h
      rw [e]; exact hp, fun m hm h => (E.old m hm h).snoc (Nat.le_trans hm W.le), E.fz⟩
end

section
variable {X : Cx} {c : Ctx}
/-- a new dict is locked for good -/
theorem pe_frzD {e : Expr} {t : TE} (h : PE X e t) : PE X e (fun σ H Q => t σ H fun x H1 => ∃ a u, x = .ref a ∧ H1 a = some u ∧ Mut (some u) ∧ ∀ o, Q x (upd H1 a (.frz o u))) := by
  refine ⟨fun pins s σ H Q I hq => ?_⟩
  refine thn (h.run pins s σ H _ I hq) fun v s1 ⟨x, H1, I1, r1, a, u, e1, e2, mu, q⟩ => ?_
  obtain ⟨od, I2⟩ := I1.lock e2 mu
  exact ⟨x, _, I2, r1, q od⟩
inductive KVp (c : Ctx) (X : Cx) : KVs → List (Option Expr) → List Expr → Prop
  | nil : KVp c X .nil [] []
  | cons {k v : E} {r : KVs} {pk pv : Expr} {ks : List (Option Expr)} {vs : List Expr} : PE X pk (tEv X.K c k) → PE X pv (tEv X.K c v) → KVp c X r ks vs → KVp c X (.cons k v r) (some pk :: ks) (pv :: vs)
def trsOf (K : PySem.W.Frag) (c : Ctx) : KVs → List (TE × TE)
  | .nil => []
  | .cons k v r => (tEv K c k, tEv K c v) :: trsOf K c r
theorem kvp_pps {pos : Pos} : ∀ {kvs : KVs} {ks : List (Option Expr)} {vs : List Expr}, KVp c X kvs ks vs → PPs X pos ks vs (trsOf X.K c kvs)
  | _, _, _, .nil => pps_nil
  | _, _, _, .cons h1 h2 r => pps_cons h1 h2 (kvp_pps r)
inductive Dps (K : PySem.W.Frag) (F : Hp) (sa : List Addr) : List (V × V) → List (D × D) → Prop
  | nil : Dps K F sa [] []
  | cons {k v : V} {dk dv : D} {ps : List (V × V)} {ds : List (D × D)} : Dat K F sa k dk → Dat K F sa v dv → Dps K F sa ps ds → Dps K F sa ((k, v) :: ps) ((dk, dv) :: ds)
theorem Dps.mono {K : PySem.W.Frag} {F F' : Hp} {sa sa' : List Addr} (h : Sub F F') (p : Pre sa sa') : ∀ {ps : List (V × V)} {ds : List (D × D)}, Dps K F sa ps ds → Dps K F' sa' ps ds
  | _, _, .nil => .nil
  | _, _, .cons q r s => .cons (q.mono h p) (r.mono h p) (Dps.mono h p s)
theorem trs_ok {K : PySem.W.Frag} {σ : L2.St} {ρ : Env} : ∀ {kvs : KVs} {F : Hp} {sa : List Addr} {st : Store} {H : Hp} {ps : List (D × D)} {st' : Store} {Q : List (V × V) → Hp → Prop}, Wd K c.base F sa st H → Rho K F sa σ ρ → evPs c kvs ρ st = some (ps, st') →
    (∀ vs F' sa' H', Wd K c.base F' sa' st' H' → Ext c.base F sa st H F' sa' st' H' → Dps K F' sa' vs ps → Q vs H') → tPairs (trsOf K c kvs) σ H Q
  | .nil, F, sa, st, H, ps, st', Q, W, R, e, O => by
    simp only [evPs, Option.some.injEq, Prod.mk.injEq] at e
    obtain ⟨rfl, rfl⟩ := e
    exact O [] F sa H W .refl .nil
  | .cons k v r, F, sa, st, H, ps, st', Q, W, R, e, O => by
    simp only [evPs, Option.bind_eq_some_iff, Option.map_eq_some_iff] at e
    obtain ⟨⟨d1, st1⟩, e1, ⟨d2, st2⟩, e2, ⟨ps', st3⟩, e3, e4⟩ := e
    cases e4
    refine ⟨F, sa, st, ρ, d1, st1, W, R, e1, fun v1 F1 sa1 H1 W1 E1 q1 => ⟨F1, sa1, st1, ρ, d2, st2, W1, R.ext E1, e2, fun v2 F2 sa2 H2 W2 E2 q2 => ?_⟩⟩
    exact trs_ok W2 ((R.ext E1).ext E2) e3 fun vs F3 sa3 H3 W3 E3 q3 => O _ F3 sa3 H3 W3 ((E1.trans E2).trans E3) (.cons ((q1.ext E2).ext E3) (q2.ext E3) q3)
/-- the pairs of a display with text keys -/
theorem dmake_str {K : PySem.W.Frag} {F : Hp} {sa : List Addr} : ∀ {ps : List (V × V)} {ds : List (D × D)} {xs : List (Str × V)} {vs : List D} {r : List D × List D}, Dps K F sa ps ds → (∀ p ∈ ds, isStr p.1 = true) → (xs.map (·.1)).Nodup → Dats K F sa (xs.map (·.2)) vs →
    dmake false ds (xs.map (fun p => D.str p.1), vs) = some r → ∃ (kvs : List (Key × V)) (ys : List (Str × V)), ps = kvs.map (fun kv => (kV kv.1, kv.2)) ∧ mergeK (Lx xs) kvs = Lx ys ∧ (ys.map (·.1)).Nodup ∧ kvs.length = ds.length ∧ r.1 = ys.map (fun p => D.str p.1) ∧ Dats K F sa (ys.map (·.2)) r.2
  | _, _, xs, vs, r, .nil, _, nd, q, e => by
    simp only [dmake, Option.some.injEq] at e
    subst e
    exact ⟨[], xs, rfl, rfl, nd, rfl, rfl, q⟩
  | _, _, xs, vs, r, .cons (dk := dk) (dv := dv) (v := v) (ds := dz) h1 h2 h3, hs, nd, q, e => by
    have hk := hs _ List.mem_cons_self
    cases h1 <;> try (simp [isStr] at hk; done)
    rename_i x
    simp only [dmake] at e
    split at e <;> try (cases e; done)
    obtain ⟨b1, b2⟩ := putK_sput (v := v) (x := x) nd
    obtain ⟨b3, b4⟩ := dats_sput (x := x) q h2
    have e' : dmake false dz ((sput xs x v).map (fun p => D.str p.1), (dput (xs.map fun p => D.str p.1) vs (.str x) dv).2) = some r := by rw [← keys_str b3]; exact e
    obtain ⟨kvs, ys, c1, c2, c3, c4, c5, c6⟩ := dmake_str h3 (fun p hp => hs p (List.mem_cons_of_mem _ hp)) b2 b4 e'
    refine ⟨(Sum.inr x, v) :: kvs, ys, by rw [c1]; rfl, ?_, c3, by simp [c4], c5, c6⟩
    show mergeK (putK (Lx xs) (Sum.inr x) v) kvs = Lx ys
    rw [b1]; exact c2
def kvStr : KVs → Bool
  | .nil => true
  | .cons k _ r => (match k with | .str _ => true | _ => false) && kvStr r
theorem kvStr_ok {ρ : Env} : ∀ {kvs : KVs} {st : Store} {ps : List (D × D)} {st' : Store}, kvStr kvs = true → evPs c kvs ρ st = some (ps, st') → ∀ p ∈ ps, isStr p.1 = true
  | .nil, st, ps, st', _, e => by
    simp only [evPs, Option.some.injEq, Prod.mk.injEq] at e
    obtain ⟨rfl, rfl⟩ := e
    intro p hp; simp at hp
  | .cons k v r, st, ps, st', h, e => by
    simp only [kvStr, Bool.and_eq_true] at h
    simp only [evPs, Option.bind_eq_some_iff, Option.map_eq_some_iff] at e
    obtain ⟨⟨d1, st1⟩, e1, ⟨d2, st2⟩, e2, ⟨ps', st3⟩, e3, e4⟩ := e
    cases e4
    have ih := kvStr_ok h.2 e3
    intro p hp
    rcases List.mem_cons.mp hp with rfl | hp
    · obtain ⟨h, _⟩ := h
      split at h
      · simp only [evE, Option.some.injEq, Prod.mk.injEq] at e1
        rw [← e1.1]; rfl
      · cases h
    · exact ih p hp
theorem evPs_len {ρ : Env} : ∀ {kvs : KVs} {st : Store} {ps : List (D × D)} {st' : Store}, evPs c kvs ρ st = some (ps, st') → ps.length = (trsOf X.K c kvs).length
  | .nil, st, ps, st', e => by
    simp only [evPs, Option.some.injEq, Prod.mk.injEq] at e
    obtain ⟨rfl, rfl⟩ := e
    rfl
  | .cons k v r, st, ps, st', e => by
    simp only [evPs, Option.bind_eq_some_iff, Option.map_eq_some_iff] at e
    obtain ⟨⟨d1, st1⟩, e1, ⟨d2, st2⟩, e2, ⟨ps', st3⟩, e3, e4⟩ := e
    cases e4
    simp [trsOf, evPs_len e3]
theorem kvp_len : ∀ {kvs : KVs} {ks : List (Option Expr)} {vs : List Expr}, KVp c X kvs ks vs → ks.length = vs.length ∧ ks.length = (trsOf X.K c kvs).length ∧ ks.all (·.isSome) = true
  | _, _, _, .nil => ⟨rfl, rfl, rfl⟩
  | _, _, _, .cons _ _ r => by
    obtain ⟨h1, h2, h3⟩ := kvp_len r
    exact ⟨by simp [h1], by simp [trsOf, h2], by simp [h3]⟩
theorem tEv_mono {K : PySem.W.Frag} {e : E} {σ : L2.St} {H : Hp} {Q Q' : VK} (h : tEv K c e σ H Q) (i : ∀ v H', Q v H' → Q' v H') : tEv K c e σ H Q' := by
  obtain ⟨F, sa, st, ρ, d, st', W, R, e, O⟩ := h
  exact ⟨F, sa, st, ρ, d, st', W, R, e, fun v F' sa' H' a b c => i _ _ (O v F' sa' H' a b c)⟩
theorem pairs_mono {K : PySem.W.Frag} {σ : L2.St} : ∀ {kvs : KVs} {H : Hp} {Q Q' : List (V × V) → Hp → Prop}, tPairs (trsOf K c kvs) σ H Q → (∀ ps H', Q ps H' → Q' ps H') → tPairs (trsOf K c kvs) σ H Q'
  | .nil, H, Q, Q', h, i => i _ _ h
  | .cons k v r, H, Q, Q', h, i => tEv_mono h fun _ _ h => tEv_mono h fun _ _ h => pairs_mono h fun _ _ h => i _ _ h
/-- {'a': .., ..}: text keys -/
theorem se_dct {b : Bool} {kvs : KVs} {ks : List (Option Expr)} {vs : List Expr} {pos : Pos} (h : KVp c X kvs ks vs) (hs : kvStr kvs = true) (h0 : ks ≠ []) (h15 : ks.length ≤ 15) : PE X (.Dict ks vs pos) (tEv X.K c (.dct b false kvs)) := by
  obtain ⟨l1, l2, l3⟩ := kvp_len h
  have R := pe_disp (kvp_pps (pos := pos) h) l3 l1 h0 h15
  have key : ∀ (σ : L2.St) (H : Hp) (Q : VK), tEv X.K c (.dct b false kvs) σ H Q → tDisp (trsOf X.K c kvs) σ H (fun x H1 => ∃ (F : Hp) (sa : List Addr) (st1 : Store) (F1 : Hp) (sa1 : List Addr) (st2 : Store) (d : D) (st3 : Store) (ys : List (Str × V)) (ws : List D) (p : Addr) (H2 : Hp) (st0 : Store) (H0 : Hp),
      x = .ref p ∧ H1 = upd H2 p (.dK (Lx ys)) ∧ H2 p = some (.dK []) ∧ F1 p = none ∧ p ∉ sa1 ∧ Wd X.K c.base F1 sa1 st1 H2 ∧ Ext c.base F sa st0 H0 F1 sa1 st1 H2 ∧ (ys.map (·.1)).Nodup ∧ Dats X.K F1 sa1 (ys.map (·.2)) ws ∧ H0 p = none ∧
      new b (.dct false (ys.map fun p => D.str p.1) ws) st1 = some (d, st3) ∧ Out X.K c.base F sa st0 H0 st3 d Q) := by
    intro σ H Q ⟨F, sa, st, ρ, d, st', W, R, e, O⟩ p hp
    simp only [evE, Option.bind_eq_some_iff] at e
    obtain ⟨⟨ps, st1⟩, e1, ⟨dk, dv⟩, e2, e3⟩ := e
    refine trs_ok (W.junk hp) R e1 fun vs1 F1 sa1 H1 W1 E1 q1 => ?_
    obtain ⟨kv, ys, c1, c2, c3, c4, c5, c6⟩ := dmake_str (xs := []) q1 (kvStr_ok hs e1) (by simp) .nil e2
    have hpp : H1 p = some (.dK []) := E1.fr p _ upd_same (W.notin hp)
    have np : p ∉ sa1 := fun z => by
      have := E1.new p z (W.notin hp)
      rw [upd_same] at this; cases this
    have nf : F1 p = none := by
      cases q : F1 p with
      | none => rfl
      | some o =>
        rcases E1.fz p o q with z | z | z
        · rw [W.fnone hp] at z; cases z
        · rw [upd_same] at z; cases z
        · exact absurd z (W.notin hp)
    refine ⟨hpp, kv, c1, by rw [c4, evPs_len (X := X) e1, ← l2]; exact h15, F, sa, st1, F1, sa1, st1, d, st', ys, dv, p, H1, st, H, rfl, ?_, hpp, nf, np, W1, (Ext.junk hp).trans E1, c3, c6, hp, ?_, O⟩
    · have : mergeK [] kv = Lx ys := c2
      rw [this]
    · have : dk = ys.map fun p => D.str p.1 := c5
      rw [← this]; exact e3
  cases b with
  | false =>
    refine (pe_frzD R).imp fun σ H Q hq p hp => ?_
    obtain ⟨F, sa, st, ρ, d, st', W, R', e, O⟩ := hq
    have := key σ H Q ⟨F, sa, st, ρ, d, st', W, R', e, O⟩ p hp
    refine pairs_mono this fun ps H2 ⟨h1, kv, h2, h3, h4⟩ => ⟨h1, kv, h2, h3, ?_⟩
    obtain ⟨F, sa, st1, F1, sa1, st2, d, st3, ys, ws, p', H2', st0, H0, e1, e2, e3, nf, np, W1, E1, nd, q, hp0, hn, O⟩ := h4
    cases e1
    refine ⟨p, .dK (Lx ys), rfl, by rw [e2]; exact upd_same, trivial, fun o => ?_⟩
    simp only [new, Bool.false_eq_true, if_false, Option.some.injEq, Prod.mk.injEq] at hn
    obtain ⟨rfl, rfl⟩ := hn
    rw [e2, upd_upd]
    refine O _ (upd F1 p (.frz o (.dK (Lx ys)))) sa1 _ (W1.frozen2 nf np) (E1.frozen2 hp0 nf) (.dct upd_same (.k ys nd) ?_ ?_)
    · exact strs_keys ys
    · exact q.mono (sub_upd nf) (.refl _)
  | true =>
    refine R.imp fun σ H Q hq p hp => ?_
    have := key σ H Q hq p hp
    refine pairs_mono this fun ps H2 ⟨h1, kv, h2, h3, h4⟩ => ⟨h1, kv, h2, h3, ?_⟩
    obtain ⟨F, sa, st1, F1, sa1, st2, d, st3, ys, ws, p', H2', st0, H0, e1, e2, e3, nf, np, W1, E1, nd, q, hp0, hn, O⟩ := h4
    cases e1
    simp only [new, if_true, Option.some.injEq, Prod.mk.injEq] at hn
    obtain ⟨rfl, rfl⟩ := hn
    rw [e2]
    refine O _ F1 (sa1 ++ [p]) _ (W1.boxed2 nf np ⟨_, _, _, upd_same, .k ys nd, strs_keys ys, q⟩) (E1.boxed2 W1 hp0) (.box ?_)
    rw [← W1.len]; simp
end
end Ev

namespace Ev
open PySem PySem.Spec PyProof.Rows L2
mutual
def T.slots : T → List Nat
  | .name i => [i]
  | .tup ts => T.slotss ts
def T.slotss : List T → List Nat
  | [] => []
  | t :: ts => T.slots t ++ T.slotss ts
end
mutual
def gOf (K : PySem.W.Frag) : T → TG
  | .name i => gName i
  | .tup ts => gTup K ts.length (gsOf K ts)
def gsOf (K : PySem.W.Frag) : List T → TGs
  | [] => gNil
  | t :: ts => gCons (gOf K t) (gsOf K ts)
end
theorem wipe_set {σ : L2.St} {i : Nat} {v : Option V} : ∀ {vs : List Nat}, i ∈ vs → L2.wipe (σ.set i v) vs = L2.wipe σ vs
  | w :: vs, h => by
    unfold L2.wipe
    by_cases z : i = w
    · subst z
      by_cases hm : i ∈ vs
      · rw [wipe_set hm]
      · have : ∀ (vs : List Nat), i ∉ vs → L2.wipe (σ.set i v) vs = (L2.wipe σ vs).set i v := by
          intro vs
          induction vs with
          | nil => intro _; rfl
          | cons u us ih =>
            intro hn
            simp only [List.mem_cons, not_or] at hn
            unfold L2.wipe
            rw [ih hn.2, List.set_comm _ _ (Ne.symm hn.1)]
        rw [this vs hm, List.set_set]
    · have hm : i ∈ vs := by simpa [z] using h
      rw [wipe_set hm]
theorem wipe_sub {σ : L2.St} {vs : List Nat} : ∀ {us : List Nat}, (∀ i ∈ us, i ∈ vs) → L2.wipe (L2.wipe σ us) vs = L2.wipe σ vs
  | [], _ => rfl
  | u :: us, h => by
    show L2.wipe ((L2.wipe σ us).set u none) vs = _
    rw [wipe_set (h u List.mem_cons_self), wipe_sub fun i hi => h i (List.mem_cons_of_mem _ hi)]
theorem wipe_wipe {σ : L2.St} {vs : List Nat} : L2.wipe (L2.wipe σ vs) vs = L2.wipe σ vs := wipe_sub fun _ h => h
section
variable {K : PySem.W.Frag} {base : Nat} {F F' H H' : Hp} {sa sa' : List Addr} {st st' : Store}
/-- an object of one's own that is not told of stays -/
theorem Ext.own (E : Ext base F sa st H F' sa' st' H') {p : Addr} {o : HO} (h : H p = some o) (hn : p ∉ sa) (hf : F p = none) : H' p = some o ∧ p ∉ sa' ∧ F' p = none := by
  refine ⟨E.fr p o h hn, fun z => ?_, ?_⟩
  · have := E.new p z hn
    rw [h] at this; cases this
  · cases q : F' p with
    | none => rfl
    | some u =>
      rcases E.fz p u q with z | z | z
      · rw [hf] at z; cases z
      · rw [h] at z; cases z
      · exact absurd z hn
mutual
theorem bind_ok (hs : Sub F H) : ∀ {t : T} {d : D} {v : V} {ρ ρ' : Env} {σ : L2.St} {Q : L2.St → Hp → Prop}, bindT t d ρ = some ρ' → Dat K F sa v d → Rho K F sa σ ρ →
    (∀ σ', Rho K F sa σ' ρ' → (∀ vs, (∀ i ∈ T.slots t, i ∈ vs) → L2.wipe σ' vs = L2.wipe σ vs) → Q σ' H) → gOf K t v σ H Q
  | .name i, d, v, ρ, ρ', σ, Q, e, q, R, k => by
    simp only [bindT, Option.some.injEq] at e
    subst e
    exact k _ (R.set q) fun vs h => wipe_set (h i (by simp [T.slots]))
  | .tup ts, d, v, ρ, ρ', σ, Q, e, q, R, k => by
    cases q <;> simp only [bindT] at e <;> try (cases e; done)
    rename_i a vs ds q r
    have hl := bindTs_len e
    refine ⟨_, _, rfl, sqt_sub hs q, by rw [r.length, hl], ?_⟩
    exact binds_ok hs e r R fun σ' R' w => k σ' R' fun vs h => w vs (by simpa [T.slots] using h)
theorem binds_ok (hs : Sub F H) : ∀ {ts : List T} {ds : List D} {vs : List V} {ρ ρ' : Env} {σ : L2.St} {Q : L2.St → Hp → Prop}, bindTs ts ds ρ = some ρ' → Dats K F sa vs ds → Rho K F sa σ ρ →
    (∀ σ', Rho K F sa σ' ρ' → (∀ vs, (∀ i ∈ T.slotss ts, i ∈ vs) → L2.wipe σ' vs = L2.wipe σ vs) → Q σ' H) → gsOf K ts vs σ H Q
  | [], ds, vs, ρ, ρ', σ, Q, e, q, R, k => by
    cases q with
    | nil =>
      simp only [bindTs, Option.some.injEq] at e
      subst e
      exact ⟨rfl, k σ R fun _ _ => rfl⟩
    | cons _ _ => simp [bindTs] at e
  | t :: ts, ds, vs, ρ, ρ', σ, Q, e, q, R, k => by
    cases q with
    | nil => simp [bindTs] at e
    | cons q r =>
      simp only [bindTs, Option.bind_eq_some_iff] at e
      obtain ⟨ρ1, e1, e2⟩ := e
      refine ⟨_, _, rfl, ?_⟩
      exact bind_ok hs e1 q R fun σ1 R1 w1 => binds_ok hs e2 r R1 fun σ2 R2 w2 => k σ2 R2 fun vs h => by
        simp only [T.slotss, List.mem_append] at h
        rw [w2 vs fun i hi => h i (.inr hi), w1 vs fun i hi => h i (.inl hi)]
theorem bindTs_len : ∀ {ts : List T} {ds : List D} {ρ ρ' : Env}, bindTs ts ds ρ = some ρ' → ds.length = ts.length
  | [], [], _, _, _ => rfl
  | [], _ :: _, _, _, e => by simp [bindTs] at e
  | _ :: _, [], _, _, e => by simp [bindTs] at e
  | t :: ts, d :: ds, ρ, ρ', e => by
    simp only [bindTs, Option.bind_eq_some_iff] at e
    obtain ⟨ρ1, e1, e2⟩ := e
    simp [bindTs_len e2]
end

/-- the iterator J yields these data -/
def ItD (K : PySem.W.Frag) (base : Nat) (F : Hp) (sa : List Addr) (ds : List D) (J : It) : Prop := ∀ F' sa' st' H', Sub F F' → Pre sa sa' → Wd K base F' sa' st' H' → ∀ i : Nat,
  (∀ d, ds[i]? = some d → J.go i H' ∧ ∀ x H'', J.yld i H' x H'' → ∃ F'', Wd K base F'' sa' st' H'' ∧ Ext base F' sa' st' H' F'' sa' st' H'' ∧ Dat K F'' sa' x d) ∧ (ds[i]? = none → J.stop i H')
theorem it_list {a : Addr} {vs : List V} {ds : List D} (h : F a = some (.lst vs)) (r : Dats K F sa vs ds) : ItD K base F sa ds (Itl K a) := fun F' sa' st' H' hF hp W i => by
  have q : SqL K H' a vs := .of (W.sub _ _ (hF _ _ h))
  refine ⟨fun d e => ?_, fun e => ⟨vs, q, ?_⟩⟩
  · obtain ⟨v, ev, qv⟩ := r.get e
    refine ⟨⟨vs, v, q, ev⟩, fun x H'' ⟨e1, e2⟩ => ?_⟩
    subst e1
    have := e2 vs q
    rw [ev] at this
    cases this
    exact ⟨F', W, .refl, qv.mono hF hp⟩
  · rw [r.length]; exact List.getElem?_eq_none_iff.mp e
theorem it_tup {a : Addr} {vs : List V} {ds : List D} (h : SqT K F a vs) (r : Dats K F sa vs ds) : ItD K base F sa ds (Itt K a) := fun F' sa' st' H' hF hp W i => by
  have q : SqT K H' a vs := sqt_sub W.sub (sqt_sub hF h)
  refine ⟨fun d e => ?_, fun e => ⟨vs, q, ?_⟩⟩
  · obtain ⟨v, ev, qv⟩ := r.get e
    refine ⟨⟨vs, v, q, ev⟩, fun x H'' ⟨e1, e2⟩ => ?_⟩
    subst e1
    have := e2 vs q
    rw [ev] at this
    cases this
    exact ⟨F', W, .refl, qv.mono hF hp⟩
  · rw [r.length]; exact List.getElem?_eq_none_iff.mp e
theorem it_range {lo : Int} {n : Nat} : ItD K base F sa ((List.range n).map fun (i : Nat) => D.int (lo + i)) (Itr lo n) := fun F' sa' st' H' hF hp W i => by
  refine ⟨fun d e => ?_, fun e => ?_⟩
  · rw [List.getElem?_map, Option.map_eq_some_iff] at e
    obtain ⟨j, e1, e2⟩ := e
    have hj := List.getElem?_eq_some_iff.mp e1
    obtain ⟨h1, h2⟩ := hj
    simp at h1 h2
    subst h2 e2
    refine ⟨h1, fun x H'' ⟨e3, e4⟩ => ?_⟩
    subst e3 e4
    exact ⟨F', W, .refl, .int _⟩
  · have := List.getElem?_eq_none_iff.mp e
    simp at this
    exact this
theorem zip_get {xs ys : List D} {i : Nat} {d : D} (e : ((xs.zip ys).map fun p => D.tup [p.1, p.2])[i]? = some d) : ∃ x y, xs[i]? = some x ∧ ys[i]? = some y ∧ d = .tup [x, y] := by
  rw [List.getElem?_map, Option.map_eq_some_iff] at e
  obtain ⟨⟨x, y⟩, e1, e2⟩ := e
  rw [List.getElem?_zip_eq_some] at e1
  exact ⟨x, y, e1.1, e1.2, e2.symm⟩
theorem zip_none {xs ys : List D} {i : Nat} (e : ((xs.zip ys).map fun p => D.tup [p.1, p.2])[i]? = none) : xs.length ≤ i ∨ ys.length ≤ i := by
  have := List.getElem?_eq_none_iff.mp e
  simp at this
  omega
theorem it_zip {a b : Addr} {vs ws : List V} {xs ys : List D} (h : F a = some (.lst vs)) (r : Dats K F sa vs xs) (h2 : F b = some (.lst ws)) (r2 : Dats K F sa ws ys) : ItD K base F sa ((xs.zip ys).map fun p => .tup [p.1, p.2]) (Itz K a b) := fun F' sa' st' H' hF hp W i => by
  have q : SqL K H' a vs := .of (W.sub _ _ (hF _ _ h))
  have q2 : SqL K H' b ws := .of (W.sub _ _ (hF _ _ h2))
  refine ⟨fun d e => ?_, fun e => ⟨vs, ws, q, q2, ?_⟩⟩
  · obtain ⟨x, y, e1, e2, rfl⟩ := zip_get e
    obtain ⟨v, ev, qv⟩ := r.get e1
    obtain ⟨w, ew, qw⟩ := r2.get e2
    refine ⟨⟨vs, ws, v, w, q, q2, ev, ew⟩, fun z H'' ⟨T, x', y', e3, e4, e5, e6, e7⟩ => ?_⟩
    have h6 := e6 vs q
    have h7 := e7 ws q2
    rw [ev] at h6
    rw [ew] at h7
    cases h6
    cases h7
    subst e3 e5
    have qq : Dats K F' sa' [v, w] [x, y] := .cons (qv.mono hF hp) (.cons (qw.mono hF hp) .nil)
    exact ⟨upd F' T (.tup [v, w]), W.frozen e4, .frozen W e4, .tup (.of upd_same) (qq.mono (sub_upd (W.fnone e4)) (.refl _))⟩
  · rw [r.length, r2.length]; exact zip_none e
theorem it_zipT {a b : Addr} {vs ws : List V} {xs ys : List D} (h : SqT K F a vs) (r : Dats K F sa vs xs) (h2 : SqT K F b ws) (r2 : Dats K F sa ws ys) : ItD K base F sa ((xs.zip ys).map fun p => .tup [p.1, p.2]) (RZ.ItzT K a b) := fun F' sa' st' H' hF hp W i => by
  have q : SqT K H' a vs := sqt_sub W.sub (sqt_sub hF h)
  have q2 : SqT K H' b ws := sqt_sub W.sub (sqt_sub hF h2)
  refine ⟨fun d e => ?_, fun e => ⟨vs, ws, q, q2, ?_⟩⟩
  · obtain ⟨x, y, e1, e2, rfl⟩ := zip_get e
    obtain ⟨v, ev, qv⟩ := r.get e1
    obtain ⟨w, ew, qw⟩ := r2.get e2
    refine ⟨⟨vs, ws, v, w, q, q2, ev, ew⟩, fun z H'' ⟨T, x', y', e3, e4, e5, e6, e7⟩ => ?_⟩
    have h6 := e6 vs q
    have h7 := e7 ws q2
    rw [ev] at h6
    rw [ew] at h7
    cases h6
    cases h7
    subst e3 e5
    have qq : Dats K F' sa' [v, w] [x, y] := .cons (qv.mono hF hp) (.cons (qw.mono hF hp) .nil)
    exact ⟨upd F' T (.tup [v, w]), W.frozen e4, .frozen W e4, .tup (.of upd_same) (qq.mono (sub_upd (W.fnone e4)) (.refl _))⟩
  · rw [r.length, r2.length]; exact zip_none e
end
section
variable {X : Cx} {c : Ctx} {Γ : Gam} {top : Bool} {N : List Str} {sc : Scope}
def tEvI (K : PySem.W.Frag) (c : Ctx) (it : I) : TI := fun σ H R => ∃ F sa st ρ ds st', Wd K c.base F sa st H ∧ Rho K F sa σ ρ ∧ evI c it ρ st = some ((ds, none), st') ∧ ∀ J F' sa' H', Wd K c.base F' sa' st' H' → Ext c.base F sa st H F' sa' st' H' → ItD K c.base F' sa' ds J → R J H'
theorem _root_.L2.PI.imp {X : Cx} {tg e : Expr} {t t' : TI} (h : PI X tg e t) (i : ∀ σ H R, t' σ H R → t σ H R) : PI X tg e t' := ⟨fun p s σ H R I q => h.run p s σ H R I (i σ H R q)⟩
/-- over a list or a tuple -/
theorem si_seq {tg p : Expr} {a : E} (h : PE X p (tEv X.K c a)) : PI X tg p (tEvI X.K c (.seq a)) := by
  refine ⟨fun pins s σ H R I ⟨F, sa, st, ρ, ds, st', W, R', e, O⟩ => ?_⟩
  simp only [evI, Option.bind_eq_some_iff, Option.map_eq_some_iff, Prod.mk.injEq] at e
  obtain ⟨⟨d1, st1⟩, e1, ds', e2, ⟨e3, _⟩, e4⟩ := e
  subst e3
  simp only at e4 e2
  subst e4
  -- what the value is, then as pi_list and pi_tup
  have h1 : tEv X.K c a σ H fun x H1 => (∃ b vs, x = .ref b ∧ SqL X.K H1 b vs ∧ R (Itl X.K b) H1) ∨ ∃ b vs, x = .ref b ∧ SqT X.K H1 b vs ∧ R (Itt X.K b) H1 := by
    refine ⟨F, sa, st, ρ, d1, st1, W, R', e1, fun v1 F1 sa1 H1 W1 E1 q1 => ?_⟩
    cases q1 <;> simp only [seqD] at e2 <;> try (cases e2; done)
    · rename_i b vs ds2 q r
      cases e2
      exact .inr ⟨b, vs, rfl, sqt_sub W1.sub q, O _ F1 sa1 H1 W1 E1 (it_tup q r)⟩
    · rename_i b vs ds2 q r
      cases e2
      exact .inl ⟨b, vs, rfl, .of (W1.sub _ _ q), O _ F1 sa1 H1 W1 E1 (it_list q r)⟩
  refine thn (h.run pins s σ H _ I h1) fun v s1 ⟨x, H1, I1, r1, q1⟩ => ?_
  rcases q1 with ⟨b, vs, ex, hq, q⟩ | ⟨b, vs, ex, hq, q⟩
  · subst ex
    cases r1
    obtain ⟨its, rv, p, hz⟩ := I1.list hq
    refine wpAny_pyIter_list p.isList ?_
    refine ⟨s1.heap.objs.size, [s1.heap.objs.size], _, _, H1, rfl, I1.kept (t' := s1.toks) fun b o e => Heap.get?_push_of_some _ e, turn_list b _, ⟨_, Heap.get?_push_size _ rfl, rfl, rfl⟩, fun b hb => ?_, q⟩
    have e : b = s1.heap.objs.size := by simpa using hb
    subst e
    exact I1.fpOk (Nat.le_refl _) (I1.hok.fresh (Nat.le_refl _))
  · subst ex
    cases r1
    obtain ⟨its, rv, p, hz⟩ := I1.tuple hq
    refine wpAny_pyIter_tuple (show s1.heap.IsTuple b its.toArray from p) ?_
    refine ⟨s1.heap.objs.size, [s1.heap.objs.size], _, _, H1, rfl, I1.kept (t' := s1.toks) fun b o e => Heap.get?_push_of_some _ e, turn_tuple b _, ⟨_, Heap.get?_push_size _ rfl, rfl, rfl⟩, fun b hb => ?_, q⟩
    have e : b = s1.heap.objs.size := by simpa using hb
    subst e
    exact I1.fpOk (Nat.le_refl _) (I1.hok.fresh (Nat.le_refl _))
theorem rng_str : plainName (Str.ofString "range") = true := by decide +kernel
theorem si_rng1 (G : Good Γ X top N sc c) {tg q : Expr} {a : E} {p pos : Pos} (hg : glb sc (Str.ofString "range") = true) (hs : notStar q = true) (h : PE X q (tEv X.K c a)) : PI X tg (.Call (.Name (Str.ofString "range") p) [q] [] pos) (tEvI X.K c (.rng1 a)) := by
  refine (pi_range1 (glb_ok G.hsc hg) (G.bl "range" (by simp [bNames])) (se_cons hs h se_nil) (star_cons hs)).imp fun σ H R ⟨F, sa, st, ρ, ds, st', W, R', e, O⟩ => ?_
  simp only [evI, Option.bind_eq_some_iff] at e
  obtain ⟨⟨d1, st1⟩, e1, e2⟩ := e
  cases d1 <;> simp only at e2 <;> try (cases e2; done)
  rename_i j
  simp only [Option.map_eq_some_iff, Prod.mk.injEq] at e2
  obtain ⟨ds', e3, ⟨e4, _⟩, e5⟩ := e2
  subst e4 e5
  simp only [rngD, Option.ite_none_right_eq_some, Option.some.injEq] at e3
  obtain ⟨⟨b1, b2, b3, b4⟩, e3⟩ := e3
  refine ⟨F, sa, st, ρ, [.int j], st1, W, R', by simp [evEs, e1], fun vs F1 sa1 H1 W1 E1 q1 => ?_⟩
  cases q1 with
  | cons q r =>
    cases q
    cases r
    refine ⟨j, rfl, by omega, by omega, O _ F1 sa1 H1 W1 E1 ?_⟩
    rw [← e3, Int.sub_zero]
    exact it_range
theorem si_rng2 (G : Good Γ X top N sc c) {tg q r : Expr} {a b : E} {p pos : Pos} (hg : glb sc (Str.ofString "range") = true) (hs : notStar q = true) (hs2 : notStar r = true) (h : PE X q (tEv X.K c a)) (h2 : PE X r (tEv X.K c b)) :
    PI X tg (.Call (.Name (Str.ofString "range") p) [q, r] [] pos) (tEvI X.K c (.rng2 a b)) := by
  have s1 : starEach [r] X.env = [(false, eval r X.env)] := star_cons hs2
  have s2 : starEach [q, r] X.env = [(false, eval q X.env), (false, eval r X.env)] := by rw [star_cons hs, s1]
  refine (pi_range2 (glb_ok G.hsc hg) (G.bl "range" (by simp [bNames])) (se_cons hs h (se_cons hs2 h2 se_nil)) s2 s1).imp fun σ H R ⟨F, sa, st, ρ, ds, st', W, R', e, O⟩ => ?_
  simp only [evI, Option.bind_eq_some_iff] at e
  obtain ⟨⟨d1, st1⟩, e1, ⟨d2, st2⟩, e2, e3⟩ := e
  cases d1 <;> cases d2 <;> simp only at e3 <;> try (cases e3; done)
  rename_i i j
  simp only [Option.map_eq_some_iff, Prod.mk.injEq] at e3
  obtain ⟨ds', e3, ⟨e4, _⟩, e5⟩ := e3
  subst e4 e5
  simp only [rngD, Option.ite_none_right_eq_some, Option.some.injEq] at e3
  obtain ⟨⟨b1, b2, b3, b4⟩, e3⟩ := e3
  refine ⟨F, sa, st, ρ, [.int i, .int j], st2, W, R', by simp [evEs, e1, e2], fun vs F1 sa1 H1 W1 E1 q1 => ?_⟩
  cases q1 with
  | cons q r =>
    cases q
    cases r with
    | cons q r =>
      cases q
      cases r
      refine ⟨i, j, rfl, ⟨by omega, by omega, by omega, by omega⟩, O _ F1 sa1 H1 W1 E1 ?_⟩
      rw [← e3]
      exact it_range
theorem si_zip (G : Good Γ X top N sc c) {q r : Expr} {a b : E} {p pos tpos : Pos} {elts : List Expr} {kk : Nat} (hg : glb sc (Str.ofString "zip") = true) (hs : notStar q = true) (hs2 : notStar r = true) (h : PE X q (tEv X.K c a)) (h2 : PE X r (tEv X.K c b)) :
    PI X (.Tuple elts kk tpos) (.Call (.Name (Str.ofString "zip") p) [q, r] [] pos) (tEvI X.K c (.zip a b)) := by
  refine (RZ.pi_zipA (glb_ok G.hsc hg) (G.bl "zip" (by simp [bNames])) (se_cons hs h (se_cons hs2 h2 se_nil)) (star_cons hs) (star_no (by simp [hs2]))).imp fun σ H R ⟨F, sa, st, ρ, ds, st', W, R', e, O⟩ => ?_
  simp only [evI, Option.bind_eq_some_iff, Option.map_eq_some_iff, Prod.mk.injEq] at e
  obtain ⟨⟨d1, st1⟩, e1, ⟨d2, st2⟩, e2, ds', e3, ⟨e4, _⟩, e5⟩ := e
  subst e4 e5
  refine ⟨F, sa, st, ρ, [d1, d2], st2, W, R', by simp [evEs, e1, e2], fun vs F1 sa1 H1 W1 E1 q1 => ?_⟩
  cases q1 with
  | cons q r =>
    cases r with
    | cons q' r' =>
      cases r'
      cases q <;> cases q' <;> simp only [zipD] at e3 <;> try (cases e3; done)
      · rename_i a1 vs1 ds1 t1 u1 a2 vs2 ds2 t2 u2
        simp only [Option.ite_none_right_eq_some, Option.some.injEq] at e3
        obtain ⟨_, e3⟩ := e3
        subst e3
        exact ⟨a1, a2, vs1, vs2, rfl, .inr ⟨sqt_sub W1.sub t1, sqt_sub W1.sub t2, O _ F1 sa1 H1 W1 E1 (it_zipT t1 u1 t2 u2)⟩⟩
      · rename_i a1 vs1 ds1 t1 u1 a2 vs2 ds2 t2 u2
        simp only [Option.ite_none_right_eq_some, Option.some.injEq] at e3
        obtain ⟨_, e3⟩ := e3
        subst e3
        exact ⟨a1, a2, vs1, vs2, rfl, .inl ⟨.of (W1.sub _ _ t1), .of (W1.sub _ _ t2), O _ F1 sa1 H1 W1 E1 (it_zip t1 u1 t2 u2)⟩⟩

def tEvG (K : PySem.W.Frag) (c : Ctx) (g : Option E) : TT := fun σ H Q => ∃ F sa st ρ b st', Wd K c.base F sa st H ∧ Rho K F sa σ ρ ∧ evG c g ρ st = some (b, st') ∧ OutB K c.base F sa st H st' b Q
theorem sg_none {X : Cx} : PTs X [] (tEvG X.K c none) := ⟨fun pins s σ H Q I ⟨F, sa, st, ρ, b, st', W, R, e, O⟩ => by
  simp only [evG, Option.some.injEq, Prod.mk.injEq] at e
  obtain ⟨rfl, rfl⟩ := e
  exact (pts_nil (X := X)).run pins s σ H Q I (O F sa H W .refl)⟩
theorem sg_some {X : Cx} {p : Expr} {e : E} (h : PT X p (tEvT X.K c e)) : PTs X [p] (tEvG X.K c (some e)) := ⟨fun pins s σ H Q I ⟨F, sa, st, ρ, b, st', W, R, e', O⟩ => (pts_one h).run pins s σ H Q I ⟨F, sa, st, ρ, b, st', W, R, e', O⟩⟩
/-- the reading of a comprehension -/
theorem comp_key {own : List (Str × Nat)} {a : E} {t : T} {it : I} {g : Option E} (hown : ∀ i ∈ T.slots t, i ∈ own.map (·.2)) :
    ∀ σ H Q, tEv X.K c (.comp (own.map (·.2)) a t it g) σ H Q → tLc (tEvI X.K c it) (gOf X.K t) (tEvG X.K c g) (tEv X.K c a) (own.map (·.2)) σ H Q := fun σ H Q ⟨F, sa, st, ρ, d, st', W, R, e, O⟩ => by
  simp only [evE, Option.bind_eq_some_iff] at e
  obtain ⟨⟨⟨ds, w⟩, st1⟩, e1, e2⟩ := e
  cases w with
  | some n => cases e2
  | none =>
    simp only [Option.map_eq_some_iff] at e2
    obtain ⟨⟨acc, st2⟩, e2, e4⟩ := e2
    cases e4
    refine ⟨F, sa, st, ρ, ds, st1, W, R, e1, fun J F1 sa1 H1 W1 E1 D1 D hD => ?_⟩
    -- the walk: at turn i the items from i on are left, what is made stands at D
    refine ⟨fun i m H' => m = ds.length - i ∧ i ≤ ds.length ∧ ∃ F' sa' stx done vs, Wd X.K c.base F' sa' stx H' ∧ Ext c.base F1 sa1 st1 H1 F' sa' stx H' ∧ H' D = some (.lst vs) ∧ D ∉ sa' ∧ F' D = none ∧ Dats X.K F' sa' vs done ∧
      walkL (fun d acc st => (bindT t d (wipeE ρ (own.map (·.2)))).bind fun ρ' => (evG c g ρ' st).bind fun k => if k.1 then (evE c a ρ' k.2).bind fun q => if acc.length < LIM then some (acc ++ [q.1], q.2) else none else some (acc, k.2)) (ds.drop i) done stx = some (acc, st2),
      ⟨ds.length, by simp, Nat.zero_le _, F1, sa1, st1, [], [], W1.junk hD, .junk hD, upd_same, W1.notin hD, W1.fnone hD, .nil, by simpa using e2⟩, ?_⟩
    rintro i m H' ⟨rfl, hi', F', sa', stx, done, vs, W', E', hD', nD, fD, q', hw⟩
    have ext0 := E1.trans E'
    cases hd : ds[i]? with
    | none =>
      have hz : ds.drop i = [] := List.drop_eq_nil_of_le (List.getElem?_eq_none_iff.mp hd)
      rw [hz] at hw
      simp only [walkL, Option.some.injEq, Prod.mk.injEq] at hw
      obtain ⟨rfl, rfl⟩ := hw
      refine .inl ⟨(D1 F' sa' stx H' E'.sub E'.pre W' i).2 hd, ?_⟩
      have e5 : upd H' D (.lst vs) = H' := by
        funext b
        by_cases z : b = D
        · subst z; rw [upd_same]; exact hD'.symm
        · rw [upd_ne z]
      have W2 : Wd X.K c.base (upd F' D (.lst vs)) sa' stx H' := by
        have := W'.frozen2 (o := .lst vs) fD nD
        rw [e5] at this; exact this
      have E2 : Ext c.base F1 sa1 st1 H1 (upd F' D (.lst vs)) sa' stx H' := by
        have := E'.frozen2 (o := .lst vs) hD fD
        rw [e5] at this; exact this
      exact O _ _ sa' H' W2 (E1.trans E2) (.lst upd_same (q'.mono (sub_upd fD) (.refl _)))
    | some d =>
      have hlt : i < ds.length := (List.getElem?_eq_some_iff.mp hd).1
      have hdr : ds.drop i = d :: ds.drop (i + 1) := by
        rw [List.drop_eq_getElem_cons hlt]
        congr 1
        exact (List.getElem?_eq_some_iff.mp hd).2
      rw [hdr] at hw
      simp only [walkL, Option.bind_eq_some_iff] at hw
      obtain ⟨⟨acc1, st4⟩, hstep, hrest⟩ := hw
      obtain ⟨ρ', hb, ⟨k, st5⟩, hk, hcase⟩ := hstep
      obtain ⟨go, yl⟩ := (D1 F' sa' stx H' E'.sub E'.pre W' i).1 d hd
      refine .inr ⟨go, fun H'' => i + 1 ≤ ds.length ∧ ∃ F' sa' stx done vs, Wd X.K c.base F' sa' stx H'' ∧ Ext c.base F1 sa1 st1 H1 F' sa' stx H'' ∧ H'' D = some (.lst vs) ∧ D ∉ sa' ∧ F' D = none ∧ Dats X.K F' sa' vs done ∧ walkL _ (ds.drop (i + 1)) done stx = some (acc, st2),
        fun H'' ⟨h1, h2⟩ => ⟨ds.length - (i + 1), by omega, rfl, h1, h2⟩, fun x H'' hy => ?_⟩
      obtain ⟨F2, W2, E2, q2⟩ := yl x H'' hy
      have R2 : Rho X.K F2 sa' (L2.wipe σ (own.map (·.2))) (wipeE ρ (own.map (·.2))) := (R.wipe _).mono (ext0.sub.trans E2.sub) (ext0.pre.trans E2.pre)
      obtain ⟨hD2, nD2, fD2⟩ := E2.own hD' nD fD
      refine bind_ok W2.sub hb q2 R2 fun σ' R3 hwp => ⟨?_, ?_⟩
      · rw [hwp _ hown, wipe_wipe]
      · refine ⟨F2, sa', stx, ρ', k, st5, W2, R3, hk, fun F3 sa3 H3 W3 E3 => ?_⟩
        have EE := (E'.trans E2).trans E3
        obtain ⟨hD3, nD3, fD3⟩ := E3.own hD2 nD2 fD2
        cases k with
        | true =>
          simp only [if_true, Option.bind_eq_some_iff, Option.ite_none_right_eq_some, Option.some.injEq, Prod.mk.injEq] at hcase ⊢
          obtain ⟨⟨y, st6⟩, hy6, hlim, e6, e7⟩ := hcase
          subst e6 e7
          refine ⟨F3, sa3, st5, ρ', y, st6, W3, R3.ext E3, hy6, fun v6 F6 sa6 H6 W6 E6 q6 => ?_⟩
          obtain ⟨hD6, nD6, fD6⟩ := E6.own hD3 nD3 fD3
          exact ⟨vs, hD6, by rw [q'.length, sizeLine_eq]; unfold LIM at hlim; omega, hlt, F6, sa6, st6, done ++ [y], vs ++ [v6], W6.junk2 fD6 nD6, (EE.trans E6).junk2 hD, upd_same, nD6, fD6, (((q'.ext E2).ext E3).ext E6).append (.one q6), hrest⟩
        | false =>
          simp only [Bool.false_eq_true, if_false, Option.some.injEq, Prod.mk.injEq] at hcase ⊢
          obtain ⟨e6, e7⟩ := hcase
          subst e6 e7
          exact ⟨hlt, F3, sa3, st5, done, vs, W3, EE, hD3, nD3, fD3, (q'.ext E2).ext E3, hrest⟩
/-- [elt for tg in it if g] -/
theorem se_comp (G : Good Γ X top N sc c) {elt tg iter : Expr} {ifs : List Expr} {scope : Scope} {own : List (Str × Nat)} {pos : Pos} {a : E} {t : T} {it : I} {g : Option E} (ok : BlkOk X.N X.env.scope scope own) (hown : ∀ i ∈ T.slots t, i ∈ own.map (·.2))
    (hi : PI X tg iter (tEvI X.K c it)) (hg : ∀ s H C cl fp, PG (X.blk s H scope (compEnvC scope cl C X.env) fp) tg (gOf X.K t)) (ht : ∀ s H C cl fp, PTs (X.blk s H scope (compEnvC scope cl C X.env) fp) ifs (tEvG X.K c g))
    (he : ∀ s H C cl fp, PE (X.blk s H scope (compEnvC scope cl C X.env) fp) elt (tEv X.K c a)) (hs : ∀ x, foldedSetIterable iter X.env x = pure x) :
    PE X (.ListComp elt [⟨tg, iter, ifs, 0⟩] scope pos) (tEv X.K c (.comp (own.map (·.2)) a t it g)) := (pe_lc G.calm G.nd hi ok hg ht he hs).imp (comp_key hown)
end
end Ev

namespace Ev
open PySem PySem.Spec PyProof.Rows L2
/-- what is wanted behind a statement's outcome -/
def OutS (K : PySem.W.Frag) (base : Nat) (F : Hp) (sa : List Addr) (st : Store) (H : Hp) (f : Fl) (st' : Store) (D : Ends) : Prop := match f with
  | .nx ρ' => ∀ σ' F' sa' H', Wd K base F' sa' st' H' → Ext base F sa st H F' sa' st' H' → Rho K F' sa' σ' ρ' → D.nx σ' H'
  | .rt d => Out K base F sa st H st' d D.rt
  | .bk ρ' => ∀ σ' F' sa' H', Wd K base F' sa' st' H' → Ext base F sa st H F' sa' st' H' → Rho K F' sa' σ' ρ' → D.bk σ' H'
section
variable {K : PySem.W.Frag} {base : Nat} {F F1 H H1 : Hp} {sa sa1 : List Addr} {st st1 st' : Store} {D D' : Ends}
theorem OutS.from {f : Fl} (O : OutS K base F sa st H f st' D) (E : Ext base F sa st H F1 sa1 st1 H1) : OutS K base F1 sa1 st1 H1 f st' D := by
  cases f with
  | nx ρ => exact fun σ' F' sa' H' W' E' R' => O σ' F' sa' H' W' (E.trans E') R'
  | rt d => exact Out.from O E
  | bk ρ => exact fun σ' F' sa' H' W' E' R' => O σ' F' sa' H' W' (E.trans E') R'
end
section
variable {X : Cx} {c : Ctx} {Γ : Gam} {top : Bool} {N : List Str} {sc : Scope}
def tEvS (K : PySem.W.Frag) (c : Ctx) (s : S) : TS := fun D σ H => ∃ F sa st ρ f st', Wd K c.base F sa st H ∧ Rho K F sa σ ρ ∧ evS c s ρ st = some (f, st') ∧ OutS K c.base F sa st H f st' D
def tEvSs (K : PySem.W.Frag) (c : Ctx) (s : List S) : TS := fun D σ H => ∃ F sa st ρ f st', Wd K c.base F sa st H ∧ Rho K F sa σ ρ ∧ evSs c s ρ st = some (f, st') ∧ OutS K c.base F sa st H f st' D
theorem ss_nil : PSs X [] (tEvSs X.K c []) := pss_nil.imp fun D σ H ⟨F, sa, st, ρ, f, st', W, R, e, O⟩ => by
  simp only [evSs, Option.some.injEq, Prod.mk.injEq] at e
  obtain ⟨rfl, rfl⟩ := e
  exact O σ F sa H W .refl R
theorem ss_cons {p : Stmt} {ps : List Stmt} {s : S} {ss : List S} (h1 : PS X p (tEvS X.K c s)) (h2 : PSs X ps (tEvSs X.K c ss)) : PSs X (p :: ps) (tEvSs X.K c (s :: ss)) := by
  refine (pss_cons h1 h2).imp fun D σ H ⟨F, sa, st, ρ, f, st', W, R, e, O⟩ => ?_
  simp only [evSs, Option.bind_eq_some_iff] at e
  obtain ⟨⟨f1, st1⟩, e1, e2⟩ := e
  refine ⟨F, sa, st, ρ, f1, st1, W, R, e1, ?_⟩
  cases f1 with
  | nx ρ' =>
    intro σ' F' sa' H' W' E' R'
    exact ⟨F', sa', st1, ρ', f, st', W', R', e2, O.from E'⟩
  | rt d =>
    simp only [Option.some.injEq, Prod.mk.injEq] at e2
    obtain ⟨rfl, rfl⟩ := e2
    exact O
  | bk ρ' =>
    simp only [Option.some.injEq, Prod.mk.injEq] at e2
    obtain ⟨rfl, rfl⟩ := e2
    exact O
theorem s_pass {pos : Pos} : PS X (.Pass pos) (tEvS X.K c .pass) := ps_pass.imp fun D σ H ⟨F, sa, st, ρ, f, st', W, R, e, O⟩ => by
  simp only [evS, Option.some.injEq, Prod.mk.injEq] at e
  obtain ⟨rfl, rfl⟩ := e
  exact O σ F sa H W .refl R
theorem s_raise {p : Stmt} : PS X p (tEvS X.K c .raise) := ⟨fun pins s σ H D I ⟨F, sa, st, ρ, f, st', W, R, e, O⟩ => by simp [evS] at e⟩
theorem s_expr {p : Expr} {pos : Pos} {e : E} (h : PE X p (tEv X.K c e)) (hs : swapsWith p none pos.line X.env = pure false) : PS X (.Expr p pos) (tEvS X.K c (.expr e)) := by
  refine (ps_expr h hs).imp fun D σ H ⟨F, sa, st, ρ, f, st', W, R, e, O⟩ => ?_
  simp only [evS, Option.map_eq_some_iff] at e
  obtain ⟨⟨d, st1⟩, e1, e2⟩ := e
  cases e2
  exact ⟨F, sa, st, ρ, d, _, W, R, e1, fun v F' sa' H' W' E' q => O σ F' sa' H' W' E' (R.ext E')⟩
theorem s_ret {p : Expr} {pos : Pos} {e : E} (h : PE X p (tEv X.K c e)) : PS X (.Return (some p) pos) (tEvS X.K c (.ret e)) := by
  refine (ps_ret h).imp fun D σ H ⟨F, sa, st, ρ, f, st', W, R, e, O⟩ => ?_
  simp only [evS, Option.map_eq_some_iff] at e
  obtain ⟨⟨d, st1⟩, e1, e2⟩ := e
  cases e2
  exact ⟨F, sa, st, ρ, d, _, W, R, e1, O⟩
theorem s_ite {t : Expr} {as bs : List Stmt} {pos : Pos} {e : E} {a b : List S} (h0 : PT X t (tEvT X.K c e)) (h1 : PSs X as (tEvSs X.K c a)) (h2 : PSs X bs (tEvSs X.K c b)) : PS X (.If t as bs pos) (tEvS X.K c (.ite e a b)) := by
  refine (ps_if h0 h1 h2).imp fun D σ H ⟨F, sa, st, ρ, f, st', W, R, e, O⟩ => ?_
  simp only [evS, Option.bind_eq_some_iff] at e
  obtain ⟨⟨k, st1⟩, e1, e2⟩ := e
  refine ⟨F, sa, st, ρ, k, st1, W, R, e1, fun F' sa' H' W' E' => ?_⟩
  cases k with
  | true =>
    simp only [if_true] at e2 ⊢
    exact ⟨F', sa', st1, ρ, f, st', W', R.ext E', e2, O.from E'⟩
  | false =>
    simp only [Bool.false_eq_true, if_false] at e2 ⊢
    exact ⟨F', sa', st1, ρ, f, st', W', R.ext E', e2, O.from E'⟩
theorem s_while {t : Expr} {bs : List Stmt} {pos : Pos} {e : E} {b : List S} (hp : PassesOwn (model X.prog X.w) X.A X.env X.xe) (h0 : PT X t (tEvT X.K c e)) (h1 : PSs X bs (tEvSs X.K c b)) : PS X (.While t bs [] pos) (tEvS X.K c (.whl e b)) := by
  refine (ps_while hp h0 h1).imp fun D σ H ⟨F, sa, st, ρ, f, st', W, R, h, O⟩ => ?_
  simp only [evS] at h
  refine ⟨fun m σ' H' => ∃ F' sa' stx ρ', Wd X.K c.base F' sa' stx H' ∧ Ext c.base F sa st H F' sa' stx H' ∧ Rho X.K F' sa' σ' ρ' ∧ whileF (evC c e) (evSs c b) m ρ' stx = some (f, st'), ⟨c.fuel, F, sa, st, ρ, W, .refl, R, h⟩, ?_⟩
  rintro m σ' H' ⟨F', sa', stx, ρ', W', E', R', hw⟩
  cases m with
  | zero => simp [whileF] at hw
  | succ m =>
    simp only [whileF, Option.bind_eq_some_iff] at hw
    obtain ⟨⟨k, st1⟩, e1, e2⟩ := hw
    refine ⟨F', sa', stx, ρ', k, st1, W', R', e1, fun F2 sa2 H2 W2 E2 => ?_⟩
    cases k with
    | false =>
      simp only [Bool.false_eq_true, if_false, Option.some.injEq, Prod.mk.injEq] at e2 ⊢
      obtain ⟨rfl, rfl⟩ := e2
      exact O σ' F2 sa2 H2 W2 (E'.trans E2) (R'.ext E2)
    | true =>
      simp only [if_true, Option.bind_eq_some_iff] at e2 ⊢
      obtain ⟨⟨f1, st2⟩, e3, e4⟩ := e2
      refine ⟨fun σ3 H3 => ∃ F3 sa3 st3 ρ3, Wd X.K c.base F3 sa3 st3 H3 ∧ Ext c.base F sa st H F3 sa3 st3 H3 ∧ Rho X.K F3 sa3 σ3 ρ3 ∧ whileF (evC c e) (evSs c b) m ρ3 st3 = some (f, st'), fun σ3 H3 h3 => ⟨m, Nat.lt_succ_self _, h3⟩, F2, sa2, st1, ρ', f1, st2, W2, R'.ext E2, e3, ?_⟩
      have EE := E'.trans E2
      cases f1 with
      | nx ρ3 =>
        intro σ3 F3 sa3 H3 W3 E3 R3
        exact ⟨F3, sa3, st2, ρ3, W3, EE.trans E3, R3, e4⟩
      | rt d =>
        simp only [Option.some.injEq, Prod.mk.injEq] at e4
        obtain ⟨rfl, rfl⟩ := e4
        exact Out.from O EE
      | bk ρ3 =>
        simp only [Option.some.injEq, Prod.mk.injEq] at e4
        obtain ⟨rfl, rfl⟩ := e4
        intro σ3 F3 sa3 H3 W3 E3 R3
        exact O σ3 F3 sa3 H3 W3 (EE.trans E3) R3
theorem s_for {tg iter : Expr} {bs : List Stmt} {pos : Pos} {t : T} {it : I} {b : List S} (hp : PassesOwn (model X.prog X.w) X.A X.env X.xe) (hc : X.calm = true) (hi : PI X tg iter (tEvI X.K c it)) (hg : PG X tg (gOf X.K t)) (hb : PSs X bs (tEvSs X.K c b))
    (hs : ∀ x, foldedSetIterable iter X.env x = pure x) : PS X (.For tg iter bs [] pos) (tEvS X.K c (.for_ t it b)) := by
  refine (ps_for hp hc hi hg hb hs).imp fun D σ H ⟨F, sa, st, ρ, f, st', W, R, h, O⟩ => ?_
  simp only [evS, Option.bind_eq_some_iff] at h
  obtain ⟨⟨⟨ds, w⟩, st1⟩, e1, e2⟩ := h
  cases w with
  | some n => cases e2
  | none =>
    simp only at e2
    refine ⟨F, sa, st, ρ, ds, st1, W, R, e1, fun J F1 sa1 H1 W1 E1 D1 => ?_⟩
    refine ⟨fun i m σ' H' => m = ds.length - i ∧ i ≤ ds.length ∧ ∃ F' sa' stx ρ', Wd X.K c.base F' sa' stx H' ∧ Ext c.base F1 sa1 st1 H1 F' sa' stx H' ∧ Rho X.K F' sa' σ' ρ' ∧
      walkF (fun d ρ st => (bindT t d ρ).bind fun ρ' => evSs c b ρ' st) (ds.drop i) ρ' stx = some (f, st'), ⟨ds.length, by simp, Nat.zero_le _, F1, sa1, st1, ρ, W1, .refl, R.ext E1, by simpa using e2⟩, ?_⟩
    rintro i m σ' H' ⟨rfl, hi', F', sa', stx, ρ', W', E', R', hw⟩
    cases hd : ds[i]? with
    | none =>
      have hz : ds.drop i = [] := List.drop_eq_nil_of_le (List.getElem?_eq_none_iff.mp hd)
      rw [hz] at hw
      simp only [walkF, Option.some.injEq, Prod.mk.injEq] at hw
      obtain ⟨rfl, rfl⟩ := hw
      exact .inl ⟨(D1 F' sa' stx H' E'.sub E'.pre W' i).2 hd, O σ' F' sa' H' W' (E1.trans E') R'⟩
    | some d =>
      have hlt : i < ds.length := (List.getElem?_eq_some_iff.mp hd).1
      have hdr : ds.drop i = d :: ds.drop (i + 1) := by
        rw [List.drop_eq_getElem_cons hlt]
        congr 1
        exact (List.getElem?_eq_some_iff.mp hd).2
      rw [hdr] at hw
      simp only [walkF, Option.bind_eq_some_iff] at hw
      obtain ⟨⟨f1, st2⟩, ⟨ρ1, hb1, hs1⟩, hrest⟩ := hw
      obtain ⟨go, yl⟩ := (D1 F' sa' stx H' E'.sub E'.pre W' i).1 d hd
      refine .inr ⟨go, fun σ3 H3 => i + 1 ≤ ds.length ∧ ∃ F3 sa3 st3 ρ3, Wd X.K c.base F3 sa3 st3 H3 ∧ Ext c.base F1 sa1 st1 H1 F3 sa3 st3 H3 ∧ Rho X.K F3 sa3 σ3 ρ3 ∧ walkF _ (ds.drop (i + 1)) ρ3 st3 = some (f, st'),
        fun σ3 H3 ⟨h1, h2⟩ => ⟨ds.length - (i + 1), by omega, rfl, h1, h2⟩, fun x H'' hy => ?_⟩
      obtain ⟨F2, W2, E2, q2⟩ := yl x H'' hy
      refine bind_ok W2.sub hb1 q2 (R'.ext E2) fun σ2 R2 _ => ⟨F2, sa', stx, ρ1, f1, st2, W2, R2, hs1, ?_⟩
      have EE := E'.trans E2
      cases f1 with
      | nx ρ3 =>
        intro σ3 F3 sa3 H3 W3 E3 R3
        exact ⟨hlt, F3, sa3, st2, ρ3, W3, EE.trans E3, R3, hrest⟩
      | rt d =>
        simp only [Option.some.injEq, Prod.mk.injEq] at hrest
        obtain ⟨rfl, rfl⟩ := hrest
        exact Out.from O (E1.trans EE)
      | bk ρ3 =>
        simp only [Option.some.injEq, Prod.mk.injEq] at hrest
        obtain ⟨rfl, rfl⟩ := hrest
        intro σ3 F3 sa3 H3 W3 E3 R3
        exact O σ3 F3 sa3 H3 W3 (E1.trans (EE.trans E3)) R3

theorem asg_key {e : E} {t : T} : ∀ D σ H, tEvS X.K c (.asg t e) D σ H → tAsg (tEv X.K c e) (gOf X.K t) D σ H := fun D σ H ⟨F, sa, st, ρ, f, st', W, R, h, O⟩ => by
  simp only [evS, Option.bind_eq_some_iff, Option.map_eq_some_iff] at h
  obtain ⟨⟨d, st1⟩, e1, ρ1, e2, e3⟩ := h
  cases e3
  exact ⟨F, sa, st, ρ, d, _, W, R, e1, fun v F' sa' H' W' E' q => bind_ok W'.sub e2 q (R.ext E') fun σ' R' _ => O σ' F' sa' H' W' E' R'⟩
/-- target = e, no swap -/
theorem s_asg {tg p : Expr} {pos : Pos} {e : E} {t : T} (h : PE X p (tEv X.K c e)) (hg : PG X tg (gOf X.K t)) (hs : swapsWithSole [tg] p pos.line X.env = pure false) (hw : swappedStores [tg] p X.env = pure none)
    (h1 : (assignEach [tg] X.env).map (·.2) = [assign tg X.env]) : PS X (.Assign [tg] p pos) (tEvS X.K c (.asg t e)) := (ps_asg h hg hs hw h1).imp asg_key
/-- name = [.. for ..] on one line -/
theorem s_asgC (G : Good Γ X top N sc c) {elt tg iter : Expr} {ifs : List Expr} {scope : Scope} {own : List (Str × Nat)} {pos spos py : Pos} {y : Str} {i : Nat} {a : E} {t : T} {it : I} {g : Option E} (hy : X.N[i]? = some y) (hyl : X.env.scope.names.lookup y = some .local)
    (hsw : swapsWith (.ListComp elt [⟨tg, iter, ifs, 0⟩] scope pos) (some (.Name y py)) spos.line X.env = pure true) (ok : BlkOk X.N X.env.scope scope own) (hown : ∀ i ∈ T.slots t, i ∈ own.map (·.2))
    (hi : PI X tg iter (tEvI X.K c it)) (hg : ∀ s H C cl fp, PG (X.blk s H scope (compEnvC scope cl C X.env) fp) tg (gOf X.K t)) (ht : ∀ s H C cl fp, PTs (X.blk s H scope (compEnvC scope cl C X.env) fp) ifs (tEvG X.K c g))
    (he : ∀ s H C cl fp, PE (X.blk s H scope (compEnvC scope cl C X.env) fp) elt (tEv X.K c a)) (hs : ∀ x, foldedSetIterable iter X.env x = pure x) :
    PS X (.Assign [.Name y py] (.ListComp elt [⟨tg, iter, ifs, 0⟩] scope pos) spos) (tEvS X.K c (.asg (.name i) (.comp (own.map (·.2)) a t it g))) := by
  refine (ps_setLc G.calm G.nd hy hyl hsw hi ok hg ht he hs).imp fun D σ H h => ?_
  exact comp_key (X := X) hown σ H _ (asg_key D σ H h)
end
end Ev

namespace Ev
open PySem PySem.Spec PyProof.Rows L2
/-- what swappedStores answers, by the scope -/
def swC (sc : Scope) (ts vs : List Expr) : Option (Option (List Str)) :=
  if (!(ts.length == 2 || ts.length == 3) || vs.length != ts.length) = true then some none
  else if (vs.any fun | .Starred .. => true | _ => false) = true then some none
  else
    let line := (ts.head?.map (·.pos.line)).getD 0
    let names := ts.filterMap fun
      | .Name id pos => if (sc.names.lookup id == some .local && pos.line == line) = true then some id else none
      | _ => none
    if (names.length != ts.length || names.eraseDups.length != names.length) = true then some none
    else if vs.all (foldedForSure 8) = true then some none
    else if vs.all (constantsAlone 8) = true then none
    else some (some names)
theorem swC_ok {sc : Scope} {ts vs : List Expr} {env : PySem.Env} {k k2 : Nat} {p p2 : Pos} {r : Option (List Str)} (hs : env.scope = sc) (hk : sc.kind = .function) (h : swC sc ts vs = some r) : swappedStores [.Tuple ts k p] (.Tuple vs k2 p2) env = pure r := by
  have hb : env.blockKind = .function := by unfold Env.blockKind; rw [hs, hk]; rfl
  subst hs
  unfold swC at h
  unfold swappedStores
  simp only [hb]
  by_cases h1 : (!(ts.length == 2 || ts.length == 3) || vs.length != ts.length) = true
  · rw [if_pos h1] at h
    cases h
    have h1' : (!(ts.length == 2 || ts.length == 3) || vs.length != ts.length || (ScopeKind.function != ScopeKind.function)) = true := by rw [h1]; rfl
    simp only [h1', if_true]
  · rw [if_neg h1] at h
    have h1' : (!(ts.length == 2 || ts.length == 3) || vs.length != ts.length || (ScopeKind.function != ScopeKind.function)) = false := by
      have : (!(ts.length == 2 || ts.length == 3) || vs.length != ts.length) = false := by simpa using h1
      rw [this]; rfl
    simp only [h1', Bool.false_eq_true, if_false]
    by_cases h2 : (vs.any fun | .Starred .. => true | _ => false) = true
    · rw [if_pos h2] at h
      cases h
      exact if_pos h2
    · rw [if_neg h2] at h
      have h2' : (vs.any fun | .Starred .. => true | _ => false) = false := by simpa using h2
      refine (if_neg (show ¬ _ from fun z => h2 z)).trans ?_
      dsimp only at h
      split at h
      · rename_i h3
        cases h
        exact if_pos h3
      · rename_i h3
        split at h
        · rename_i h4
          cases h
          exact (if_neg h3).trans (if_pos h4)
        · rename_i h4
          split at h
          · cases h
          · rename_i h5
            cases h
            exact (if_neg h3).trans ((if_neg h4).trans (if_neg h5))
section
variable {X : Cx} {c : Ctx} {Γ : Gam} {top : Bool} {N : List Str} {sc : Scope}
theorem s_par2 (G : Good Γ X top N sc c) {i j : Nat} {x y : Str} {a b : Expr} {e f : E} {px py pt pos : Pos} {kt k2 pt2} (hi : X.N[i]? = some x) (hj : X.N[j]? = some y) (hij : i ≠ j) (hx : X.env.scope.names.lookup x = some .local) (hy : X.env.scope.names.lookup y = some .local)
    (ha : PA X [a, b] (tEvs X.K c [e, f])) (hw : swappedStores [.Tuple [.Name x px, .Name y py] kt pt] (.Tuple [a, b] k2 pt2) X.env = pure (some [x, y])) :
    PS X (.Assign [.Tuple [.Name x px, .Name y py] kt pt] (.Tuple [a, b] k2 pt2) pos) (tEvS X.K c (.asg (.tup [.name i, .name j]) (.tup [e, f]))) := by
  refine (ps_par G.calm G.nd hi hj hij hx hy ha hw).imp fun D σ H ⟨F, sa, st, ρ, fl, st', W, R, h, O⟩ => ?_
  simp only [evS, evE, Option.bind_eq_some_iff, Option.map_eq_some_iff, Option.ite_none_right_eq_some, Option.some.injEq] at h
  obtain ⟨⟨d, st1⟩, ⟨⟨ds, st2⟩, e1, hl, e2⟩, ρ1, e3, e4⟩ := h
  cases e2
  cases e4
  refine ⟨F, sa, st, ρ, ds, _, W, R, e1, fun vs F' sa' H' W' E' q => ?_⟩
  cases q with
  | nil => simp [bindT, bindTs] at e3
  | cons q1 r =>
    cases r with
    | nil => simp [bindT, bindTs] at e3
    | cons q2 r =>
      cases r with
      | cons _ _ => simp [bindT, bindTs] at e3
      | nil =>
        simp only [bindT, bindTs, Option.bind_some, Option.some.injEq] at e3
        subst e3
        exact ⟨_, _, rfl, O _ F' sa' H' W' E' (((R.ext E').set q1).set q2)⟩
theorem s_par3 (G : Good Γ X top N sc c) {i j l : Nat} {x y z : Str} {a b d : Expr} {e f g : E} {px py pz pt pos : Pos} {kt k2 pt2} (hi : X.N[i]? = some x) (hj : X.N[j]? = some y) (hl : X.N[l]? = some z) (hij : i ≠ j) (hil : i ≠ l) (hjl : j ≠ l)
    (hx : X.env.scope.names.lookup x = some .local) (hy : X.env.scope.names.lookup y = some .local) (hz : X.env.scope.names.lookup z = some .local)
    (ha : PA X [a, b, d] (tEvs X.K c [e, f, g])) (hw : swappedStores [.Tuple [.Name x px, .Name y py, .Name z pz] kt pt] (.Tuple [a, b, d] k2 pt2) X.env = pure (some [x, y, z])) :
    PS X (.Assign [.Tuple [.Name x px, .Name y py, .Name z pz] kt pt] (.Tuple [a, b, d] k2 pt2) pos) (tEvS X.K c (.asg (.tup [.name i, .name j, .name l]) (.tup [e, f, g]))) := by
  refine (ps_par3 G.calm G.nd hi hj hl hij hil hjl hx hy hz ha hw).imp fun D σ H ⟨F, sa, st, ρ, fl, st', W, R, h, O⟩ => ?_
  simp only [evS, evE, Option.bind_eq_some_iff, Option.map_eq_some_iff, Option.ite_none_right_eq_some, Option.some.injEq] at h
  obtain ⟨⟨d, st1⟩, ⟨⟨ds, st2⟩, e1, hl, e2⟩, ρ1, e3, e4⟩ := h
  cases e2
  cases e4
  refine ⟨F, sa, st, ρ, ds, _, W, R, e1, fun vs F' sa' H' W' E' q => ?_⟩
  cases q with
  | nil => simp [bindT, bindTs] at e3
  | cons q1 r =>
    cases r with
    | nil => simp [bindT, bindTs] at e3
    | cons q2 r =>
      cases r with
      | nil => simp [bindT, bindTs] at e3
      | cons q3 r =>
        cases r with
        | cons _ _ => simp [bindT, bindTs] at e3
        | nil =>
          simp only [bindT, bindTs, Option.bind_some, Option.some.injEq] at e3
          subst e3
          exact ⟨_, _, _, rfl, O _ F' sa' H' W' E' ((((R.ext E').set q1).set q2).set q3)⟩

theorem unders_set {m : Nat} {d : D} (h : D.under m d = true) : ∀ (ds : List D) (i : Nat), D.unders m ds = true → D.unders m (ds.set i d) = true
  | [], _, _ => rfl
  | x :: xs, 0, q => by
    simp only [D.unders, Bool.and_eq_true, List.set_cons_zero] at q ⊢
    exact ⟨h, q.2⟩
  | x :: xs, i + 1, q => by
    simp only [D.unders, Bool.and_eq_true, List.set_cons_succ] at q ⊢
    exact ⟨q.1, unders_set h xs i q.2⟩
theorem setL_ok {K : PySem.W.Frag} {base : Nat} {F H : Hp} {sa : List Addr} {st st' : Store} {vo vi vx : V} {o i x : D} {Q : Hp → Prop} (W : Wd K base F sa st H) (qo : Dat K F sa vo o) (qi : Dat K F sa vi i) (qx : Dat K F sa vx x) (h : setL base o i x st = some st')
    (O : ∀ F' sa' H', Wd K base F' sa' st' H' → Ext base F sa st H F' sa' st' H' → Q H') : rSetL vo vi vx H Q := by
  unfold setL at h
  split at h <;> try (cases h; done)
  split at h <;> try (cases h; done)
  rename_i n _ _ ds k hds
  simp only [Option.ite_none_right_eq_some] at h
  obtain ⟨⟨k0, k1⟩, h⟩ := h
  obtain ⟨hold, rfl⟩ := put_old h
  obtain ⟨a, rfl, hn, vs, hH, r⟩ := box_at W qo hds
  cases qi
  have und : ∀ m, m ≤ base → n < m → OldOk m st → (B.lst (ds.set k.toNat x)).under m = true := fun m hm hn h => by
    have h1 := h n _ hn hds
    simp only [B.under] at h1 ⊢
    exact unders_set (under_put hold m hm hn) ds _ h1
  obtain ⟨W3, E3⟩ := W.write (o := .lst (vs.set k.toNat vx)) hn hds (fun z => nomatch z) und ⟨_, upd_same, r.set qx _⟩ (fun z => nomatch z)
  refine ⟨_, _, _, k.toNat, rfl, rfl, hH, ?_, O _ _ _ W3 E3⟩
  unfold ixN
  rw [r.length, if_pos k0, if_pos k1]
/-- a list's item is stored -/
def notSlice : Expr → Bool
  | .Slice .. => false
  | _ => true
theorem s_setI {o i p : Expr} {pos pos' : Pos} {a b e : E} (hsl : notSlice i = true) (h1 : PE X o (tEv X.K c a)) (h2 : PE X i (tEv X.K c b)) (h3 : PE X p (tEv X.K c e)) (hs : swapsWithSole [.Subscript o i pos'] p pos.line X.env = pure false) :
    PS X (.Assign [.Subscript o i pos'] p pos) (tEvS X.K c (.setI a b e)) := by
  refine (ps_asg h3 (pg_sub h1 h2 set_list (fun v => by cases i <;> first | rfl | (simp [notSlice] at hsl))) hs).imp fun D σ H ⟨F, sa, st, ρ, f, st', W, R, h, O⟩ => ?_
  simp only [evS, Option.bind_eq_some_iff, Option.map_eq_some_iff] at h
  obtain ⟨⟨d, st1⟩, e1, ⟨d2, st2⟩, e2, ⟨d3, st3⟩, e3, st4, e4, e5⟩ := h
  cases e5
  refine ⟨F, sa, st, ρ, d, st1, W, R, e1, fun v1 F1 sa1 H1 W1 E1 q1 => ⟨F1, sa1, st1, ρ, d2, st2, W1, R.ext E1, e2, fun v2 F2 sa2 H2 W2 E2 q2 => ⟨F2, sa2, st2, ρ, d3, st3, W2, (R.ext E1).ext E2, e3, fun v3 F3 sa3 H3 W3 E3 q3 => ?_⟩⟩⟩
  refine setL_ok W3 (q2.ext E3) q3 ((q1.ext E2).ext E3) e4 fun F4 sa4 H4 W4 E4 => ?_
  exact O σ F4 sa4 H4 W4 (((E1.trans E2).trans E3).trans E4) ((((R.ext E1).ext E2).ext E3).ext E4)

theorem key_str {k : D} (h : keyFits false k = true) : ∃ x, k = .str x := by
  cases k <;> simp [keyFits, keyOk, isStr] at h
  exact ⟨_, rfl⟩
/-- a key's entry, at a dict with text keys -/
theorem dget_ok {K : PySem.W.Frag} {F H : Hp} {sa : List Addr} {v1 v2 : V} {ks vs : List D} {k : D} (r : Rds K F sa H v1 (.dct false ks vs)) (q : Dat K F sa v2 k) (h : keyFits false k = true) :
    ∃ a, v1 = .ref a ∧ IsD H a ∧ ((∃ v d, DGet H a v2 (some v) ∧ dget ks vs k = some d ∧ Dat K F sa v d) ∨ (DGet H a v2 none ∧ dget ks vs k = none)) ∧ (∃ o, DGet H a v2 o ∧ o.isSome = (kfind ks k).isSome) := by
  cases r with
  | dct hr du qk qv =>
    cases du with
    | k xs nd =>
      obtain ⟨x, rfl⟩ := key_str h
      cases q
      have ek := keys_str qk
      subst ek
      refine ⟨_, rfl, .inl ⟨_, hr⟩, ?_, ?_⟩
      · rcases dget_str (x := x) qv with ⟨v, d, e1, e2, e3⟩ | ⟨e1, e2⟩
        · exact .inl ⟨v, d, .inl ⟨_, Sum.inr x, hr, rfl, e1.symm⟩, e2, e3⟩
        · exact .inr ⟨.inl ⟨_, Sum.inr x, hr, rfl, e1.symm⟩, e2⟩
      · refine ⟨valV (Lx xs) (Sum.inr x), .inl ⟨_, Sum.inr x, hr, rfl, rfl⟩, ?_⟩
        rcases look_str x xs with ⟨i, v, a1, a2, a3⟩ | ⟨a1, a2, a3⟩
        · rw [a3, a1]; rfl
        · rw [a2, a1]; rfl
theorem one_fst {e : Expr} {env : PySem.Env} {cpos : Pos} (h : notStar e = true) : backTo cpos (starEach [e] env) = [(false, eval e env)] := by rw [star_cons h]; rfl
theorem two_fst {e f : Expr} {env : PySem.Env} {cpos : Pos} (h : notStar e = true) (h' : notStar f = true) : backTo cpos (starEach [e, f] env) = [(false, eval e env), (false, eval f env)] := by rw [star_cons h, star_cons h']; rfl
theorem few_two {e f : Expr} {env : PySem.Env} {cpos : Pos} (h : notStar e = true) (h' : notStar f = true) : ((backTo cpos (starEach [e, f] env)).all (fun x => !x.1) && (backToKw cpos (keywordEach [] env)).all (fun x => x.1.isSome)
      && decide (([e, f] : List Expr).length + ([] : List Keyword).length + (if ([] : List Keyword).isEmpty then 0 else 1) < 30)) = true := by
  rw [two_fst h h']; rfl
end
end Ev

namespace Ev
open PySem PySem.Spec PyProof.Rows L2
section
variable {X : Cx} {pins : List (Addr × Obj)} {σ : L2.St} {F H : Hp} {s : Shared} {base : Nat} {sa : List Addr} {st : Store}
mutual
theorem dat_key (I : Inv X pins σ H s) (hs : Sub F H) : ∀ (n : Nat) {v : V} {d : D} {u : Value}, Dat X.K F sa v d → tkey n d = true → RelV v u → NestedIs s.heap (nk d) u
  | _, _, _, _, .non, _, r => by cases r; exact .none
  | _, _, _, _, .bl b, _, r => by cases r; exact .bool rfl
  | _, _, _, _, .int i, _, r => by obtain ⟨t, rfl⟩ := r; exact .int i t
  | _, _, _, _, .str x, h, _ => by simp [tkey] at h
  | 0, _, _, _, .tup _ _, h, _ => by simp [tkey] at h
  | n + 1, _, _, _, .tup q qs, h, r => by
    cases r
    simp only [tkey] at h
    obtain ⟨its, rv, ⟨o, ho, hc, m, hd⟩, _⟩ := I.tuple (sqt_sub hs q)
    exact .tup ho hc hd (by simpa using dats_key I hs n qs h rv)
  | _, _, _, _, .lst _ _, h, _ | _, _, _, _, .dct _ _ _ _, h, _ | _, _, _, _, .box _, h, _ | _, _, _, _, .ro _ _, h, _ => by simp [tkey] at h
theorem dats_key (I : Inv X pins σ H s) (hs : Sub F H) : ∀ (n : Nat) {vs : List V} {ds : List D} {us : List Value}, Dats X.K F sa vs ds → tkeys n ds = true → Vals vs us → NestedAll s.heap (nks ds) us
  | _, _, _, _, .nil, _, r => by cases r; exact .nil
  | n, _, _, _, .cons q qs, h, r => by
    simp only [tkeys, Bool.and_eq_true] at h
    cases r with
    | cons r rs => exact .cons (dat_key I hs n q h.1 r) (dats_key I hs n qs h.2 rs)
end
/-- a key that was handed in -/
theorem is_key (I : Inv X pins σ H s) (hs : Sub F H) {v : V} {k : D} {u : Value} (q : Dat X.K F sa v k) (hk : keyT k = true) (r : RelV v u) : ∃ b, u = .ref b ∧ v = .ref b ∧ (nestedKind X.prog X.w).is s.heap (nk k) b := by
  have h8 := tkey_of hk
  have hn := dat_key I hs 8 q h8 r
  cases q <;> simp [keyT] at hk
  cases r
  exact ⟨_, rfl, rfl, hn, nk_depth 8 _ h8⟩
theorem keysT_mem {ks : List D} (h : keysT ks = true) {k : D} (hk : k ∈ ks) : keyT k = true := List.all_eq_true.mp h k hk
theorem keys_in (I : Inv X pins σ H s) (hs : Sub F H) : ∀ {xs : List (NEn V)} {ks : List D}, Dats X.K F sa (xs.map fun x => V.ref x.2.1) ks → xs.map (·.1) = nks ks → keysT ks = true → KeysIn s.heap xs
  | [], _, _, _, _ => fun x hx => nomatch hx
  | x :: xs, [], q, e, _ => by simp [nks] at e
  | x :: xs, k :: ks, .cons q qs, e, h => by
    simp only [keysT, List.all_cons, Bool.and_eq_true] at h
    simp only [List.map_cons, nks, List.cons.injEq] at e
    intro y hy
    rcases List.mem_cons.mp hy with rfl | hy
    · obtain ⟨b, e1, e2, e3⟩ := is_key I hs q h.1 (show RelV (V.ref y.2.1) (.ref y.2.1) from rfl)
      cases e1
      rw [e.1]; exact e3
    · exact keys_in I hs qs e.2 h.2 y hy
/-- a dict with tuple keys, as it stands -/
structure AtN (X : Cx) (s : Shared) (F : Hp) (sa : List Addr) (a : Addr) (xs : List (NEn V)) (ys : List (NEn Value)) (ks vs : List D) : Prop where
  low : (a == sysModules) = false
  few : xs.length ≤ sizeLine
  keys : xs.map (·.1) = nks ks
  ok : keysT ks = true
  twin : Twin xs ys
  there : s.heap.DictOfH (nestedKind X.prog X.w) a ys
  kd : Dats X.K F sa (xs.map fun x => V.ref x.2.1) ks
  vd : Dats X.K F sa (xs.map fun x => x.2.2) vs
  nd : (ys.map (·.1)).Nodup
theorem rd_N {v : V} {ks vs : List D} (I : Inv X pins σ H s) (W : Wd X.K base F sa st H) (r : Rds X.K F sa H v (.dct true ks vs)) : ∃ a xs ys, v = .ref a ∧ Rd H a (DNo a xs) ∧ AtN X s F sa a xs ys ks vs := by
  cases r with
  | dct hr du qk qv =>
    cases du with
    | t xs hk ht hnd =>
      have ob := hr.ok I.hok
      obtain ⟨q, _, _⟩ : ObjOk X.prog X.w H s.heap _ (.ext _) := ob
      obtain ⟨b1, b2, ys, t, dd⟩ := dn_raw (P := X.prog) (w := X.w) q (keys_in I W.sub qk hk ht)
      obtain ⟨_, _, _, _, _, _, _, _, nd⟩ := id dd
      exact ⟨_, xs, ys, rfl, hr, b1, b2, hk, ht, t, dd, qk, qv, nd⟩
theorem room_of {A : Around} (hu : A.units + 66 < cLine) : (nestedKind X.prog X.w).room A.in1 := by
  show A.units + 1 + 8 < cLine
  omega
/-- what a key's place holds -/
theorem AtN.look {a : Addr} {xs : List (NEn V)} {ys : List (NEn Value)} {ks vs : List D} {k : D} (A : AtN X s F sa a xs ys ks vs) (hk : keyT k = true) :
    (∃ v u d p, dget ks vs k = some d ∧ Dat X.K F sa v d ∧ RelV v u ∧ atKey ys (nk k) = some (p, u) ∧ (kfind ks k).isSome = true) ∨ (dget ks vs k = none ∧ atKey ys (nk k) = none ∧ (kfind ks k).isSome = false) := by
  rcases atKey_find hk A.ok (by rw [A.twin.keys]; exact A.keys) A.nd with ⟨i, y, e1, e2, e3⟩ | ⟨e1, e2⟩
  · obtain ⟨x, hx, h1, h2, h3⟩ := A.twin.getR e2
    obtain ⟨d, hd, q⟩ := A.vd.getV (i := i) (v := x.2.2) (by rw [List.getElem?_map, hx]; rfl)
    exact .inl ⟨x.2.2, y.2.2, d, y.2.1, by simp only [dget, e1, Option.bind_some]; exact hd, q, h3, e3, by rw [e1]; rfl⟩
  · exact .inr ⟨by simp [dget, e1], e2, by rw [e1]; rfl⟩
end
section
variable {X : Cx} {c : Ctx} {pins : List (Addr × Obj)} {σ : L2.St} {F H : Hp} {s : Shared} {base : Nat} {sa : List Addr} {st : Store} {A : Around} {E : Value → Shared → Prop}
theorem keyFits_t {k : D} (h : keyFits true k = true) : keyT k = true := by
  cases k <;> simp [keyFits, keyOk, isStr] at h
  exact h
/-- k in d -/
theorem dd_in (hu : A.units + 66 < cLine) (I : Inv X pins σ H s) (W : Wd X.K base F sa st H) {v1 v2 : V} {u1 u2 : Value} {dd k : D} {b : Bool} {Q : Value → Shared → Prop} (r : Rds X.K F sa H v1 dd) (q : Dat X.K F sa v2 k) (r1 : RelV v1 u1) (r2 : RelV v2 u2)
    (h : dinD dd k = some b) (neg : Bool) (hQ : ∀ s', Inv X pins σ H s' → Q (.bool (b != neg)) s') : wpAny (model X.prog X.w) A (compareOp (if neg then .NotIn else .In) u2 u1) Q E s := by
  cases dd <;> simp only [dinD] at h <;> try (cases h; done)
  rename_i t ks vs
  simp only [Option.ite_none_right_eq_some, Option.some.injEq] at h
  obtain ⟨hk, rfl⟩ := h
  cases t with
  | false =>
    obtain ⟨a, rfl, _, _, o, g, e⟩ := dget_ok r q hk
    cases r1
    rw [← e] at hQ
    cases neg with
    | false => simp only [Bool.false_eq_true, if_false]; exact d_in (by omega) I g r2 fun s' I' => by simpa using hQ s' I'
    | true => simp only [if_true]; exact d_notIn (by omega) I g r2 fun s' I' => by simpa using hQ s' I'
  | true =>
    have hk' := keyFits_t hk
    obtain ⟨a, xs, ys, rfl, hr, N⟩ := rd_N I W r
    cases r1
    obtain ⟨p, rfl, rfl, hkey⟩ := is_key I W.sub q hk' r2
    have e : (atKey ys (nk k)).isSome = (kfind ks k).isSome := by
      rcases N.look hk' with ⟨_, _, _, _, _, _, _, e1, e2⟩ | ⟨_, e1, e2⟩ <;> rw [e1, e2] <;> rfl
    cases neg with
    | false =>
      simp only [Bool.false_eq_true, if_false]
      exact wpAny_in_heap (room_of hu) hkey N.low N.there (by rw [e]; simpa using hQ _ (I.tok _))
    | true =>
      simp only [if_true]
      exact wpAny_notIn_heap (room_of hu) hkey N.low N.there (by rw [e]; simpa using hQ _ (I.tok _))
/-- d[k] -/
theorem dd_item (hu : A.units + 66 < cLine) (I : Inv X pins σ H s) (W : Wd X.K base F sa st H) {v1 v2 : V} {u1 u2 : Value} {dd k d : D} {Q : Value → Shared → Prop} (r : Rds X.K F sa H v1 dd) (q : Dat X.K F sa v2 k) (r1 : RelV v1 u1) (r2 : RelV v2 u2)
    (h : dsubD dd k = some d) (hQ : ∀ v u s', Inv X pins σ H s' → RelV v u → Dat X.K F sa v d → Q u s') : wpAny (model X.prog X.w) A (getItem u1 u2) Q E s := by
  cases dd <;> simp only [dsubD] at h <;> try (cases h; done)
  rename_i t ks vs
  simp only [Option.ite_none_right_eq_some] at h
  obtain ⟨hk, h⟩ := h
  cases t with
  | false =>
    obtain ⟨a, rfl, _, hh, _⟩ := dget_ok r q hk
    cases r1
    rcases hh with ⟨v, d', g, e, qd⟩ | ⟨g, e⟩
    · rw [h] at e
      cases e
      exact d_getItem (by omega) I g r2 fun w' s' I' rw' => hQ v w' s' I' rw' qd
    · rw [h] at e; cases e
  | true =>
    have hk' := keyFits_t hk
    obtain ⟨a, xs, ys, rfl, hr, N⟩ := rd_N I W r
    cases r1
    obtain ⟨p, rfl, rfl, hkey⟩ := is_key I W.sub q hk' r2
    rcases N.look hk' with ⟨v, u, d', p', e1, qd, rv, e2, _⟩ | ⟨e1, _⟩
    · rw [h] at e1
      cases e1
      exact wpAny_getItem_heap (room_of hu) hkey N.there e2 (hQ v _ _ (I.tok _) rv qd)
    · rw [h] at e1; cases e1
/-- a dict's type -/
theorem dd_type (I : Inv X pins σ H s) (W : Wd X.K base F sa st H) {v1 : V} {dd : D} (r : Rds X.K F sa H v1 dd) (h : isDct dd = true) : ∃ a, v1 = .ref a ∧ s.TypeIs (.ref a) "dict" ∧ (∀ b, Value.ref a = .ref b → ∃ ob, s.heap.get? b = some ob ∧ ob.dict = none) ∧ (a == sysModules) = false := by
  cases dd <;> simp [isDct] at h
  rename_i t ks vs
  cases t with
  | false =>
    cases r with
    | dct hr du qk qv =>
      cases du
      exact ⟨_, rfl, isD_at I (.inl ⟨_, hr⟩)⟩
  | true =>
    obtain ⟨a, xs, ys, rfl, hr, N⟩ := rd_N I W r
    obtain ⟨o, _, _, ho, hx, _⟩ := id N.there
    refine ⟨a, rfl, N.there.typeIs, fun b q => ?_, N.low⟩
    cases q
    exact ⟨o, ho, hx.2.1⟩
/-- d.get(k) -/
theorem dd_get1 (hu : A.units + 66 < cLine) (I : Inv X pins σ H s) (W : Wd X.K base F sa st H) {v1 v2 : V} {u1 u2 : Value} {dd k d : D} {Q : Value → Shared → Prop} (r : Rds X.K F sa H v1 dd) (q : Dat X.K F sa v2 k) (r1 : RelV v1 u1) (r2 : RelV v2 u2)
    (h : getD1 dd k = some d) (hQ : ∀ v u s', Inv X pins σ H s' → RelV v u → Dat X.K F sa v d → Q u s') : wpAny (model X.prog X.w) A (call (.builtin "dict.get") [u1, u2]) Q E s := by
  cases dd <;> simp only [getD1] at h <;> try (cases h; done)
  rename_i t ks vs
  simp only [Option.ite_none_right_eq_some, Option.some.injEq] at h
  obtain ⟨hk, rfl⟩ := h
  cases t with
  | false =>
    obtain ⟨a, rfl, _, hh, _⟩ := dget_ok r q hk
    cases r1
    rcases hh with ⟨v, d', g, e, qd⟩ | ⟨g, e⟩
    · rw [e] at hQ
      exact d_get1 (by omega) I g r2 fun w' s' I' rw' => hQ v w' s' I' rw' qd
    · rw [e] at hQ
      exact d_get1 (by omega) I g r2 fun w' s' I' rw' => hQ .non w' s' I' rw' .non
  | true =>
    have hk' := keyFits_t hk
    obtain ⟨a, xs, ys, rfl, hr, N⟩ := rd_N I W r
    cases r1
    obtain ⟨p, rfl, rfl, hkey⟩ := is_key I W.sub q hk' r2
    refine call_meetsIn PySem.F.slot_dict_get N.there.typeIs PySem.F.entry_dict_get (PySem.F.args_dict_get_2 _ _) (meetsH_dict_get (nestedKind X.prog X.w) a p N.low) ⟨room_of hu, nk k, ys, hkey, N.there, ?_⟩
    rcases N.look hk' with ⟨v, u, d', p', e1, qd, rv, e2, _⟩ | ⟨e1, e2, _⟩
    · rw [e1] at hQ
      rw [e2]
      exact hQ v _ _ (I.tok _) rv qd
    · rw [e1] at hQ
      rw [e2]
      exact hQ .non _ _ (I.tok _) rfl .non
/-- d.get(k, x) -/
theorem dd_get2 (hu : A.units + 66 < cLine) (I : Inv X pins σ H s) (W : Wd X.K base F sa st H) {v1 v2 v3 : V} {u1 u2 u3 : Value} {dd k x d : D} {Q : Value → Shared → Prop} (r : Rds X.K F sa H v1 dd) (q : Dat X.K F sa v2 k) (qx : Dat X.K F sa v3 x) (r1 : RelV v1 u1) (r2 : RelV v2 u2) (r3 : RelV v3 u3)
    (h : getD2 dd k x = some d) (hQ : ∀ v u s', Inv X pins σ H s' → RelV v u → Dat X.K F sa v d → Q u s') : wpAny (model X.prog X.w) A (call (.builtin "dict.get") [u1, u2, u3]) Q E s := by
  cases dd <;> simp only [getD2] at h <;> try (cases h; done)
  rename_i t ks vs
  simp only [Option.ite_none_right_eq_some, Option.some.injEq] at h
  obtain ⟨hk, rfl⟩ := h
  cases t with
  | false =>
    obtain ⟨a, rfl, _, hh, _⟩ := dget_ok r q hk
    cases r1
    rcases hh with ⟨v, d', g, e, qd⟩ | ⟨g, e⟩
    · rw [e] at hQ
      exact d_get2 (by omega) I g r2 r3 fun w' s' I' rw' => hQ v w' s' I' rw' qd
    · rw [e] at hQ
      exact d_get2 (by omega) I g r2 r3 fun w' s' I' rw' => hQ v3 w' s' I' rw' qx
  | true =>
    have hk' := keyFits_t hk
    obtain ⟨a, xs, ys, rfl, hr, N⟩ := rd_N I W r
    cases r1
    obtain ⟨p, rfl, rfl, hkey⟩ := is_key I W.sub q hk' r2
    refine call_meetsIn PySem.F.slot_dict_get N.there.typeIs PySem.F.entry_dict_get (PySem.F.args_dict_get_3 _ _ _) (meetsH_dict_get_default (nestedKind X.prog X.w) a p N.low u3) ⟨room_of hu, nk k, ys, hkey, N.there, ?_⟩
    rcases N.look hk' with ⟨v, u, d', p', e1, qd, rv, e2, _⟩ | ⟨e1, e2, _⟩
    · rw [e1] at hQ
      rw [e2]
      exact hQ v _ _ (I.tok _) rv qd
    · rw [e1] at hQ
      rw [e2]
      exact hQ v3 _ _ (I.tok _) r3 qx
theorem sputs_keys {xs : List (Str × V)} {x : Str} {v : V} : (sput xs x v).length ≤ xs.length + 1 := by
  unfold sput
  split <;> simp
theorem dput_under {m : Nat} {ks vs : List D} {k x : D} (h : D.unders m ks = true ∧ D.unders m vs = true) (hk : D.under m k = true) (hx : D.under m x = true) : D.unders m (dput ks vs k x).1 = true ∧ D.unders m (dput ks vs k x).2 = true := by
  unfold dput
  cases kfind ks k with
  | none => simp only [unders_append, h.1, h.2, D.unders, hk, hx, Bool.and_self, and_self]
  | some i => exact ⟨h.1, unders_set hx vs i h.2⟩
mutual
theorem tkey_under {m : Nat} : ∀ (n : Nat) (d : D), tkey n d = true → D.under m d = true
  | _, .non, _ | _, .bl _, _ | _, .int _, _ => by simp [D.under]
  | 0, .tup _, h => by simp [tkey] at h
  | n + 1, .tup ds, h => by simp only [tkey] at h; simp only [D.under]; exact tkeys_under n ds h
  | _, .str _, h | _, .lst _, h | _, .dct _ _ _, h | _, .box _, h | _, .ro _, h => by simp [tkey] at h
theorem tkeys_under {m : Nat} : ∀ (n : Nat) (ds : List D), tkeys n ds = true → D.unders m ds = true
  | _, [], _ => rfl
  | n, d :: ds, h => by simp only [tkeys, Bool.and_eq_true] at h; simp only [D.unders, tkey_under n d h.1, tkeys_under n ds h.2, Bool.and_self]
end
theorem keyFits_under {t : Bool} {k : D} {m : Nat} (h : keyFits t k = true) : D.under m k = true := by
  cases k <;> simp [keyFits, keyOk, isStr] at h
  · simp [D.under]
  · simp only [D.under]; exact tkeys_under 7 _ h.1
theorem nput_refs {K : PySem.W.Frag} {xs : List (NEn V)} {ks vs : List D} {k w : D} {a : Addr} {v : V} (hk : keyT k = true) (ho : keysT ks = true) (e : xs.map (·.1) = nks ks) (qk : Dats K F sa (xs.map fun x => V.ref x.2.1) ks) (q : Dat K F sa (.ref a) k) (qv : Dats K F sa (xs.map fun x => x.2.2) vs) (qw : Dat K F sa v w) :
    Dats K F sa ((nput xs (kfind ks k) (nk k) a v).map fun x => V.ref x.2.1) (dput ks vs k w).1 ∧ Dats K F sa ((nput xs (kfind ks k) (nk k) a v).map fun x => x.2.2) (dput ks vs k w).2 ∧ keysT (dput ks vs k w).1 = true := by
  unfold dput
  cases hf : kfind ks k with
  | none =>
    simp only [nput, List.map_append, List.map_cons, List.map_nil]
    exact ⟨qk.append (.one q), qv.append (.one qw), by simp [keysT] at ho ⊢; exact ⟨ho, hk⟩⟩
  | some i =>
    simp only [nput]
    have hi := kfind_lt hf
    have hl : xs.length = ks.length := by have := congrArg List.length e; simpa [nks_len] using this
    have hx : xs[i]? = some xs[i] := List.getElem?_eq_getElem (by omega)
    rw [hx]
    simp only [List.map_set]
    refine ⟨?_, qv.set qw i, ho⟩
    have : (xs.map fun x => V.ref x.2.1).set i (V.ref xs[i].2.1) = xs.map fun x => V.ref x.2.1 := by
      apply List.ext_getElem?
      intro j
      by_cases z : i = j
      · subst z
        rw [List.getElem?_set_self (by simpa using (by omega : i < xs.length)), List.getElem?_map, hx]; rfl
      · rw [List.getElem?_set_ne z]
    rw [this]; exact qk
/-- d[k] = x of a dict's box -/
theorem dd_set (hu : A.units + 66 < cLine) (I : Inv X pins σ H s) (W : Wd X.K base F sa st H) {v1 v2 v3 : V} {u1 u2 u3 : Value} {o k x : D} {st' : Store} {Q : Unit → Shared → Prop} (qo : Dat X.K F sa v1 o) (q : Dat X.K F sa v2 k) (qx : Dat X.K F sa v3 x) (r1 : RelV v1 u1) (r2 : RelV v2 u2) (r3 : RelV v3 u3)
    (h : setK base o k x st = some st') (hQ : ∀ H' s', Wd X.K base F sa st' H' → Ext base F sa st H F sa st' H' → Inv X pins σ H' s' → Q () s') : wpAny (model X.prog X.w) A (setItem u1 u2 u3) Q E s := by
  unfold setK at h
  split at h <;> try (cases h; done)
  rename_i n
  split at h <;> try (cases h; done)
  rename_i t ks vs hds
  simp only [Option.ite_none_right_eq_some, Bool.and_eq_true, decide_eq_true_eq] at h
  obtain ⟨⟨hk, hlim⟩, h⟩ := h
  obtain ⟨hold, rfl⟩ := put_old h
  obtain ⟨a, rfl, hn, u, kv, vv, hH, du, qk, qv⟩ := box_at W qo hds
  cases r1
  have und : ∀ m, m ≤ base → n < m → OldOk m st → (B.dct t (dput ks vs k x).1 (dput ks vs k x).2).under m = true := fun m hm hn h => by
    have h1 := h n _ hn hds
    simp only [B.under, Bool.and_eq_true] at h1 ⊢
    exact dput_under h1 (keyFits_under hk) (under_put hold m hm hn)
  cases du with
  | k xs nd =>
    obtain ⟨y, rfl⟩ := key_str hk
    cases q
    have ek := keys_str qk
    subst ek
    have hl : (Lx xs).length < sizeLine := by
      have : (Lx xs).length = xs.length := by simp [Lx]
      have h2 : (xs.map fun p => D.str p.1).length = xs.length := by simp
      rw [this, sizeLine_eq]; unfold LIM at hlim; omega
    obtain ⟨b1, b2⟩ := putK_sput (v := v3) (x := y) nd
    obtain ⟨b3, b4⟩ := dats_sput (x := y) qv qx
    have b5 := keys_str b3
    refine d_setItem (by omega) I (DPut.k (k := Sum.inr y) (v := v3) hH hl) r2 r3 fun s' I' => ?_
    have e1 : putK (Lx xs) (Sum.inr y) v3 = Lx (sput xs y v3) := b1
    have I'' : Inv X pins σ (upd H a (.dK (Lx (sput xs y v3)))) s' := by rw [← e1]; exact I'
    obtain ⟨W2, E2⟩ := W.write (o := .dK (Lx (sput xs y v3))) hn hds (fun z => nomatch z) und ⟨_, _, _, upd_same, .k (sput xs y v3) b2, b3, b4⟩ (fun z => nomatch z)
    exact hQ _ s' W2 E2 I''
  | t xs hkk ht hnd =>
    have hk' := keyFits_t hk
    obtain ⟨p, rfl, rfl, hkey⟩ := is_key I W.sub q hk' r2
    obtain ⟨qq, _, _⟩ : ObjOk X.prog X.w H s.heap a (.ext _) := I.hok a _ hH
    obtain ⟨b1, b2, ys, tw, dd⟩ := dn_raw (P := X.prog) (w := X.w) qq (keys_in I W.sub qk hkk ht)
    obtain ⟨_, _, _, _, _, _, _, _, nd⟩ := id dd
    have b3 := qq.2.2.1
    have hlen : xs.length = ks.length := by have := congrArg List.length hkk; simpa [nks_len] using this
    have hz : ys.length ≤ sizeLine := by rw [← tw.len]; exact b2
    refine wpAny_setItem_heap (hsz := hz) (room_of hu) hkey dd fun h' dd' sb => ?_
    have e1 : storedH ys (nk k) p u3 = nput ys (kfind ks k) (nk k) p u3 := storedH_nput hk' ht (by rw [tw.keys]; exact hkk) nd
    rw [e1] at dd'
    obtain ⟨c1, c2, c3⟩ := nput_refs hk' ht hkk qk q qv qx
    have hfew : (nput xs (kfind ks k) (nk k) p v3).length ≤ sizeLine := by
      have := nput_len (xs := xs) (i := kfind ks k) (k := nk k) (a := p) (v := v3)
      rw [sizeLine_eq]; unfold LIM at hlim; omega
    have hnt : ∀ x ∈ nput xs (kfind ks k) (nk k) p v3, noT x.1 = true := fun x hx => by
      rcases nput_mem hx with ⟨y, hy, e, _⟩ | ⟨e, _⟩
      · rw [← e]; exact b3 y hy
      · rw [e]; exact nk_noT 8 k (tkey_of hk')
    have new := dn_back b1 hfew hnt (tw.put r3 (kfind ks k)) dd'
    obtain ⟨ob, _, _, ho, _⟩ := id dd'
    have I' : Inv X pins σ (upd H a (DNo a (nput xs (kfind ks k) (nk k) p v3))) { s with heap := h', toks := s.toks + (nestedKind X.prog X.w).draws (nk k) } :=
      d_write I (by rw [hH]; exact True.intro) sb ⟨_, ho⟩ (dn_obj new)
    obtain ⟨W2, E2⟩ := W.write (o := DNo a (nput xs (kfind ks k) (nk k) p v3)) hn hds (fun z => nomatch z) und ⟨_, _, _, upd_same, .t _ (nput_keys hkk) c3 (dput_nodup hk' ht hnd), c1, c2⟩ (fun z => nomatch z)
    exact hQ _ _ W2 E2 I'
end
end Ev

namespace Ev
open PySem PySem.Spec PyProof.Rows L2
section
variable {X : Cx} {c : Ctx}
/-- what is known behind an expression -/
def Kp (X : Cx) (c : Ctx) (F : Hp) (sa : List Addr) (st : Store) (H : Hp) (st1 : Store) (d1 : D) : VK := fun v H1 => ∃ F1 sa1, Wd X.K c.base F1 sa1 st1 H1 ∧ Ext c.base F sa st H F1 sa1 st1 H1 ∧ Dat X.K F1 sa1 v d1
theorem kp {e : E} {σ : L2.St} {ρ : Env} {F : Hp} {sa : List Addr} {st : Store} {H : Hp} {st1 : Store} {d1 : D} (W : Wd X.K c.base F sa st H) (R : Rho X.K F sa σ ρ) (h : evE c e ρ st = some (d1, st1)) : tEv X.K c e σ H (Kp X c F sa st H st1 d1) :=
  ⟨F, sa, st, ρ, d1, st1, W, R, h, fun _ F1 sa1 _ W1 E1 q1 => ⟨F1, sa1, W1, E1, q1⟩⟩
/-- k in d, k not in d -/
def rDin (X : Cx) : R2 := fun y x H Q => ∃ (base : Nat) (F : Hp) (sa : List Addr) (st : Store) (dk dd : D) (b : Bool), Wd X.K base F sa st H ∧ Dat X.K F sa y dk ∧ Rds X.K F sa H x dd ∧ dinD dd dk = some b ∧ Q (.bl b) H
def rDnot (X : Cx) : R2 := fun y x H Q => rDin X y x H fun v H' => ∃ b, v = .bl b ∧ Q (.bl (!b)) H'
theorem op_din (hu : X.A.units + 66 < cLine) : OpR X (compareOp .In) (rDin X) := by
  intro pins s σ H y x u2 u1 Q I r2 r1 ⟨base, F, sa, st, dk, dd, b, W, q, r, h, hq⟩
  have := dd_in (Q := EP X pins σ Q) (E := X.xe) hu I W r q r1 r2 h false fun s' I' => ⟨.bl b, H, I', by cases b <;> rfl, hq⟩
  simpa using this
theorem op_dnot (hu : X.A.units + 66 < cLine) : OpR X (compareOp .NotIn) (rDnot X) := by
  intro pins s σ H y x u2 u1 Q I r2 r1 ⟨base, F, sa, st, dk, dd, b, W, q, r, h, b', e, hq⟩
  cases e
  have := dd_in (Q := EP X pins σ Q) (E := X.xe) hu I W r q r1 r2 h true fun s' I' => ⟨.bl (!b), H, I', by cases b <;> rfl, hq⟩
  simpa using this
theorem din_key {k a : E} {neg : Bool} : ∀ (σ : L2.St) (H : Hp) (Q : VK), tEv X.K c (.din neg k a) σ H Q → tOp (rDin X) (tEv X.K c k) (tEv X.K c a) σ H fun v H' => ∃ b, v = .bl b ∧ Q (.bl (b != neg)) H' := fun σ H Q ⟨F, sa, st, ρ, d, st', W, R, e, O⟩ => by
  simp only [evE, Option.bind_eq_some_iff, Option.map_eq_some_iff] at e
  obtain ⟨⟨d1, st1⟩, e1, ⟨d2, st2⟩, e2, b, e3, e4⟩ := e
  cases e4
  refine ⟨F, sa, st, ρ, d1, st1, W, R, e1, fun v1 F1 sa1 H1 W1 E1 q1 => ⟨F1, sa1, st1, ρ, d2, _, W1, R.ext E1, e2, fun v2 F2 sa2 H2 W2 E2 q2 => ?_⟩⟩
  exact ⟨_, _, _, _, _, _, _, W2, q1.ext E2, rd_ok W2 q2, e3, b, rfl, (O.from (E1.trans E2)).same W2 (.bl _)⟩
def inOp (neg : Bool) : CmpOp := if neg then .NotIn else .In
theorem tEv_op {r : R2} {a b : E} {σ : L2.St} {H : Hp} {Q Q' : VK} (h : tOp r (tEv X.K c a) (tEv X.K c b) σ H Q) (i : ∀ x y H', r x y H' Q → r x y H' Q') : tOp r (tEv X.K c a) (tEv X.K c b) σ H Q' :=
  tEv_mono h fun _ _ h => tEv_mono h fun _ _ h => i _ _ _ h
theorem rDin_mono {x y : V} {H : Hp} {Q Q' : VK} (h : rDin X x y H Q) (i : ∀ b, Q (.bl b) H → Q' (.bl b) H) : rDin X x y H Q' := by
  obtain ⟨base, F, sa, st, dk, dd, b, W, q, r, h, hq⟩ := h
  exact ⟨base, F, sa, st, dk, dd, b, W, q, r, h, i b hq⟩
theorem se_din (hu : X.A.units + 66 < cLine) {p q : Expr} {pos : Pos} {k a : E} {neg : Bool} (hm : behindInMarks (inOp neg) q = false) (h1 : PE X p (tEv X.K c k)) (h2 : PE X q (tEv X.K c a)) : PE X (.Compare p [inOp neg] [q] pos) (tEv X.K c (.din neg k a)) := by
  cases neg with
  | false =>
    refine (pe_cmpR (op := .In) (op_din hu) h1 h2 hm).imp fun σ H Q h => tEv_op (din_key σ H Q h) fun x y H' h => rDin_mono h fun b ⟨b', e, hq⟩ => ?_
    cases e
    simpa using hq
  | true =>
    refine (pe_cmpR (op := .NotIn) (op_dnot hu) h1 h2 hm).imp fun σ H Q h => ?_
    refine tEv_mono (din_key σ H Q h) fun _ _ h => tEv_mono h fun _ _ h => rDin_mono h fun b ⟨b', e, hq⟩ => ?_
    cases e
    exact ⟨b, rfl, by simpa using hq⟩
theorem st_din (hu : X.A.units + 66 < cLine) {p q : Expr} {pos : Pos} {k a : E} {neg : Bool} (hm : behindInMarks (inOp neg) q = false) (h1 : PE X p (tEv X.K c k)) (h2 : PE X q (tEv X.K c a)) : PT X (.Compare p [inOp neg] [q] pos) (tEvT X.K c (.din neg k a)) := by
  cases neg with
  | false =>
    refine (pt_cmpR (op := .In) (op_din hu) h1 h2 hm).imp fun σ H Q h => ?_
    refine tEv_op (din_key σ H _ (tb_ok (p := p) σ H Q h)) fun x y H' h => rDin_mono h fun b ⟨b', e, hq⟩ => ?_
    cases e
    simpa using hq
  | true =>
    refine (pt_cmpR (op := .NotIn) (op_dnot hu) h1 h2 hm).imp fun σ H Q h => ?_
    refine tEv_mono (din_key σ H _ (tb_ok (p := p) σ H Q h)) fun _ _ h => tEv_mono h fun _ _ h => rDin_mono h fun b ⟨b', e, hq⟩ => ?_
    cases e
    exact ⟨b, rfl, by simpa using hq⟩
theorem dsub_dct {dd k d : D} (h : dsubD dd k = some d) : isDct dd = true := by cases dd <;> first | rfl | simp [dsubD] at h
theorem get1_dct {dd k d : D} (h : getD1 dd k = some d) : isDct dd = true := by cases dd <;> first | rfl | simp [getD1] at h
/-- d[k] -/
theorem se_dsub (hu : X.A.units + 66 < cLine) {p q : Expr} {pos : Pos} {a i : E} (hx : NoSl q) (h1 : PE X p (tEv X.K c a)) (h2 : PE X q (tEv X.K c i)) : PE X (.Subscript p q pos) (tEv X.K c (.dsub a i)) := by
  refine ⟨fun pins s σ H Q I ⟨F, sa, st, ρ, d, st', W, R, e, O⟩ => ?_⟩
  simp only [evE, Option.bind_eq_some_iff, Option.map_eq_some_iff] at e
  obtain ⟨⟨d1, st1⟩, e1, ⟨d2, st2⟩, e2, d3, e3, e4⟩ := e
  cases e4
  refine subD_of PySem.F.slot_dict_getitem.lookup hx (thn (h1.run pins s σ H _ I (kp W R e1)) fun u1 s1 ⟨v1, H1, I1, r1, F1, sa1, W1, E1, q1⟩ => thn (h2.run pins s1 σ H1 _ I1 (kp W1 (R.ext E1) e2)) fun u2 s2 ⟨v2, H2, I2, r2, F2, sa2, W2, E2, q2⟩ => ?_)
  have rr := rd_ok W2 (q1.ext E2)
  obtain ⟨a', rfl, t1, t2, _⟩ := dd_type I2 W2 rr (dsub_dct e3)
  cases r1
  exact ⟨t1, dd_item hu I2 W2 rr q2 rfl r2 e3 fun v u s' I' rv qv => ⟨v, H2, I', rv, (O.from (E1.trans E2)).same W2 qv⟩⟩
theorem se_get2 (hu : X.A.units + 66 < cLine) {o p q : Expr} {apos cpos : Pos} {a k x : E} (hb : plainBase o = true) (hs : notStar p = true) (hs2 : notStar q = true) (hl : (apos.endLine == cpos.line) = true)
    (h1 : PE X o (tEv X.K c a)) (h2 : PE X p (tEv X.K c k)) (h3 : PE X q (tEv X.K c x)) : PE X (.Call (.Attribute o "get" apos) [p, q] [] cpos) (tEv X.K c (.get2 a k x)) := by
  refine ⟨fun pins s σ H Q I ⟨F, sa, st, ρ, d, st', W, R, e, O⟩ => ?_⟩
  simp only [evE, Option.bind_eq_some_iff, Option.map_eq_some_iff, Option.ite_none_right_eq_some] at e
  obtain ⟨⟨d1, st1⟩, e1, hdc, ⟨d2, st2⟩, e2, ⟨d3, st3⟩, e3, d4, e4, e5⟩ := e
  cases e5
  refine wpAny_Call_method (base_ok hb) (few_two hs hs2) hl PySem.F.plainAttrs_dict PySem.F.slot_dict_get PySem.F.type_dict_get (thn (h1.run pins s σ H _ I (kp W R e1)) fun u1 s1 ⟨v1, H1, I1, r1, F1, sa1, W1, E1, q1⟩ => ?_)
  obtain ⟨a', rfl, t1, t2, _⟩ := dd_type I1 W1 (rd_ok W1 q1) hdc
  cases r1
  refine ⟨t1, t2, ?_⟩
  rw [two_fst hs hs2]
  refine Calls.callWith_builtin rfl (Calls.evalArgs_plain (Calls.spliced_cons (thn (h2.run pins s1 σ H1 _ I1 (kp W1 (R.ext E1) e2)) fun u2 s2 ⟨v2, H2, I2, r2, F2, sa2, W2, E2, q2⟩ =>
    Calls.spliced_cons (thn (h3.run pins s2 σ H2 _ I2 (kp W2 ((R.ext E1).ext E2) e3)) fun u3 s3 ⟨v3, H3, I3, r3, F3, sa3, W3, E3, q3⟩ => Calls.spliced_nil ?_))))
  exact dd_get2 hu I3 W3 (rd_ok W3 ((q1.ext E2).ext E3)) (q2.ext E3) q3 rfl r2 r3 e4 fun v u s' I' rv qv => ⟨v, H3, I', rv, (O.from ((E1.trans E2).trans E3)).same W3 qv⟩
theorem se_get1 (hu : X.A.units + 66 < cLine) {o p : Expr} {apos cpos : Pos} {a k : E} (hb : plainBase o = true) (hs : notStar p = true) (hl : (apos.endLine == cpos.line) = true)
    (h1 : PE X o (tEv X.K c a)) (h2 : PE X p (tEv X.K c k)) : PE X (.Call (.Attribute o "get" apos) [p] [] cpos) (tEv X.K c (.get1 a k)) := by
  refine ⟨fun pins s σ H Q I ⟨F, sa, st, ρ, d, st', W, R, e, O⟩ => ?_⟩
  simp only [evE, Option.bind_eq_some_iff, Option.map_eq_some_iff, Option.ite_none_right_eq_some] at e
  obtain ⟨⟨d1, st1⟩, e1, hdc, ⟨d2, st2⟩, e2, d4, e4, e5⟩ := e
  cases e5
  refine wpAny_Call_method (base_ok hb) (few_one hs) hl PySem.F.plainAttrs_dict PySem.F.slot_dict_get PySem.F.type_dict_get (thn (h1.run pins s σ H _ I (kp W R e1)) fun u1 s1 ⟨v1, H1, I1, r1, F1, sa1, W1, E1, q1⟩ => ?_)
  obtain ⟨a', rfl, t1, t2, _⟩ := dd_type I1 W1 (rd_ok W1 q1) hdc
  cases r1
  refine ⟨t1, t2, ?_⟩
  rw [one_fst hs]
  refine Calls.callWith_builtin rfl (Calls.evalArgs_plain (Calls.spliced_cons (thn (h2.run pins s1 σ H1 _ I1 (kp W1 (R.ext E1) e2)) fun u2 s2 ⟨v2, H2, I2, r2, F2, sa2, W2, E2, q2⟩ => Calls.spliced_nil ?_)))
  exact dd_get1 hu I2 W2 (rd_ok W2 (q1.ext E2)) q2 rfl r2 e4 fun v u s' I' rv qv => ⟨v, H2, I', rv, (O.from (E1.trans E2)).same W2 qv⟩
/-- d[k] = e -/
theorem s_setK (hu : X.A.units + 66 < cLine) {o i p : Expr} {pos pos' : Pos} {a b e : E} (h1 : PE X o (tEv X.K c a)) (h2 : PE X i (tEv X.K c b)) (h3 : PE X p (tEv X.K c e)) (hs : swapsWith p (some (.Subscript o i pos')) pos.line X.env = pure false) :
    PS X (.Assign [.Subscript o i pos'] p pos) (tEvS X.K c (.setK a b e)) := by
  refine ⟨fun pins s σ H D I ⟨F, sa, st, ρ, f, st', W, R, h, O⟩ => ?_⟩
  simp only [evS, Option.bind_eq_some_iff, Option.map_eq_some_iff] at h
  obtain ⟨⟨d1, st1⟩, e1, ⟨d2, st2⟩, e2, ⟨d3, st3⟩, e3, st4, e4, e5⟩ := h
  cases e5
  refine wpAny_Assign_Subscript (thn (h3.run pins s σ H _ I (kp W R e1)) fun u3 s1 ⟨v3, H1, I1, r3, F1, sa1, W1, E1, q1⟩ => thn (h1.run pins s1 σ H1 _ I1 (kp W1 (R.ext E1) e2)) fun u1 s2 ⟨v1, H2, I2, r1, F2, sa2, W2, E2, q2⟩ =>
    thn (h2.run pins s2 σ H2 _ I2 (kp W2 ((R.ext E1).ext E2) e3)) fun u2 s3 ⟨v2, H3, I3, r2, F3, sa3, W3, E3, q3⟩ => ?_) hs
  exact dd_set hu I3 W3 (q2.ext E3) q3 ((q1.ext E2).ext E3) r1 r2 r3 e4 fun H4 s4 W4 E4 I4 => ⟨σ, H4, I4, O σ F3 sa3 H4 W4 (((E1.trans E2).trans E3).trans E4) ((((R.ext E1).ext E2).ext E3).ext E4)⟩
/-- o.pop() -/
theorem unders_take {m : Nat} : ∀ (ds : List D) (n : Nat), D.unders m ds = true → D.unders m (ds.take n) = true
  | [], n, _ => by simp [D.unders]
  | d :: ds, 0, _ => rfl
  | d :: ds, n + 1, h => by
    simp only [D.unders, Bool.and_eq_true, List.take_succ_cons] at h ⊢
    exact ⟨h.1, unders_take ds n h.2⟩
theorem pop_lb {o d : D} {st st' : Store} (h : popD o st = some (d, st')) : isLB o st = true := by
  unfold popD at h
  unfold isLB
  split at h <;> try (cases h; done)
  split at h <;> try (cases h; done)
  rename_i hds
  simp only [hds]
theorem se_pop {o : Expr} {apos cpos : Pos} {a : E} (hb : plainBase o = true) (hl : (apos.endLine == cpos.line) = true) (h1 : PE X o (tEv X.K c a)) : PE X (.Call (.Attribute o "pop" apos) [] [] cpos) (tEv X.K c (.pop a)) := by
  refine (pe_bm0 PySem.F.plainAttrs_list PySem.F.slot_list_pop PySem.F.type_list_pop mt_pop h1 (base_ok hb) hl).imp fun σ H Q ⟨F, sa, st, ρ, d, st', W, R, e, O⟩ => ?_
  simp only [evE, Option.bind_eq_some_iff] at e
  obtain ⟨⟨d1, st1⟩, e1, e2⟩ := e
  refine ⟨F, sa, st, ρ, d1, st1, W, R, e1, fun v1 F1 sa1 H1 W1 E1 q1 => ⟨tyV_lb W1 q1 (pop_lb e2), ?_⟩⟩
  replace e2 : popD d1 st1 = some (d, st') := e2
  unfold popD at e2
  split at e2 <;> try (cases e2; done)
  rename_i n
  split at e2 <;> try (cases e2; done)
  rename_i ds hds
  split at e2 <;> try (cases e2; done)
  rename_i d2 hlast
  cases e2
  obtain ⟨b, rfl, hn, vs, hH, r⟩ := box_at W1 q1 hds
  have hlast' : ds[ds.length - 1]? = some d := by rw [← List.getLast?_eq_getElem?]; exact hlast
  obtain ⟨v, hv, qv⟩ := r.get hlast'
  have und : ∀ m, m ≤ c.base → n < m → OldOk m st1 → (B.lst ds.dropLast).under m = true := fun m hm hn h => by
    have h1 := h n _ hn hds
    simp only [B.under] at h1 ⊢
    rw [List.dropLast_eq_take]
    exact unders_take _ _ h1
  obtain ⟨W3, E3⟩ := W1.write (o := .lst vs.dropLast) hn hds (fun z => nomatch z) und ⟨_, upd_same, r.dropLast⟩ (fun z => nomatch z)
  exact ⟨_, _, v, rfl, rfl, hH, by rw [r.length]; exact hv, ((O.from E1).from E3).same W3 (qv.ext E3)⟩
/-- a + b of lists, a new box -/
theorem se_catB {p q : Expr} {pos : Pos} {a b : E} (h1 : PE X p (tEv X.K c a)) (h2 : PE X q (tEv X.K c b)) : PE X (.BinOp p .Add q pos) (tEv X.K c (.catB a b)) := by
  refine (pe_op op_cat h1 h2).imp fun σ H Q ⟨F, sa, st, ρ, d, st', W, R, e, O⟩ => ?_
  simp only [evE, Option.bind_eq_some_iff] at e
  obtain ⟨⟨d1, st1⟩, e1, ⟨d2, st2⟩, e2, e3⟩ := e
  refine ⟨F, sa, st, ρ, d1, st1, W, R, e1, fun v1 F1 sa1 H1 W1 E1 q1 => ⟨F1, sa1, st1, ρ, d2, st2, W1, R.ext E1, e2, fun v2 F2 sa2 H2 W2 E2 q2 => ?_⟩⟩
  have r1 := rd_ok W2 (q1.ext E2)
  have r2 := rd_ok W2 q2
  generalize rd st2 d1 = x1 at e3 r1
  generalize rd st2 d2 = x2 at e3 r2
  cases x1 <;> cases x2 <;> try (cases e3; done)
  cases r1 with
  | lst g1 w1 =>
    cases r2 with
    | lst g2 w2 =>
      simp only [Option.ite_none_right_eq_some] at e3
      exact ⟨_, _, _, _, rfl, rfl, g1, g2, by rw [w1.length, w2.length]; exact lim_line e3.1, (O.from (E1.trans E2)).newlst e3.2 W2 (w1.append w2)⟩

theorem inv_bigS {pins : List (Addr × Obj)} {σ : L2.St} {H : Hp} {s : Shared} (I : Inv X pins σ H s) : sysModules < s.heap.objs.size := I.big
/-- {} -/
theorem se_dct0 {t : Bool} {pos : Pos} : PE X (.Dict [] [] pos) (tEv X.K c (.dct true t .nil)) := by
  have key : ∀ {σ : L2.St} {H : Hp} {Q : VK} {F : Hp} {sa : List Addr} {st : Store} {ρ : Env} {d : D} {st' : Store} {p : Addr} {u : HO}, Wd X.K c.base F sa st H → evE c (.dct true t .nil) ρ st = some (d, st') → Out X.K c.base F sa st H st' d Q → H p = none → DU p t u [] [] [] → Q (.ref p) (upd H p u) := by
    intro σ H Q F sa st ρ d st' p u W e O hp du
    simp only [evE, evPs, dmake, Option.bind_some, new, if_true, Option.some.injEq, Prod.mk.injEq] at e
    obtain ⟨rfl, rfl⟩ := e
    refine O _ F (sa ++ [p]) _ (W.boxed hp ⟨_, _, _, upd_same, du, .nil, .nil⟩ (fun z => nomatch z)) (.boxed W hp) (.box ?_)
    rw [← W.len]; simp
  cases t with
  | false => exact pe_dnewK.imp fun σ H Q ⟨F, sa, st, ρ, d, st', W, R, e, O⟩ p hp => key (σ := σ) W e O hp (.k [] List.nodup_nil)
  | true =>
    refine ⟨fun pins s σ H Q I ⟨F, sa, st, ρ, d, st', W, R, e, O⟩ => ?_⟩
    have hn := I.hok.fresh (Nat.le_refl s.heap.objs.size)
    refine wpAny_Dict_empty ⟨.ref s.heap.objs.size, _, I.laid (a := s.heap.objs.size) (o := DNo s.heap.objs.size []) (t' := s.toks) (fun _ _ q => Heap.get?_push_of_some _ q) (Nat.le_refl _) (dn_obj (dn_new X.prog X.w s.heap rfl I.big)), rfl, ?_⟩
    exact key (σ := σ) W e O hn (.t [] rfl rfl List.nodup_nil)
theorem evPs_one {k v : E} {ρ : Env} {st st1 : Store} {ps : List (D × D)} (h : evPs c (.cons k v .nil) ρ st = some (ps, st1)) : ∃ k1 v1, ps = [(k1, v1)] := by
  rw [evPs] at h
  dsimp only at h
  cases ha : evE c k ρ st with
  | none => rw [ha] at h; cases h
  | some r =>
    rw [ha, Option.bind_some] at h
    cases hb : evE c v ρ r.2 with
    | none => rw [hb] at h; cases h
    | some q =>
      rw [hb, Option.bind_some] at h
      simp only [evPs, Option.map_some, Option.some.injEq, Prod.mk.injEq] at h
      exact ⟨_, _, h.1.symm⟩
/-- {k: v}, k a tuple -/
theorem se_dct1 (hu : X.A.units + 66 < cLine) {pk pv : Expr} {pos : Pos} {k v : E} (h1 : PE X pk (tEv X.K c k)) (h2 : PE X pv (tEv X.K c v)) : PE X (.Dict [some pk] [pv] pos) (tEv X.K c (.dct true true (.cons k v .nil))) := by
  refine ⟨fun pins s σ H Q I ⟨F, sa, st, ρ, d, st', W, R, e, O⟩ => ?_⟩
  simp only [evE, Option.bind_eq_some_iff] at e
  obtain ⟨⟨ps, st1⟩, e1, ⟨dk, dv⟩, e2, e3⟩ := e
  have hp := I.hok.fresh (Nat.le_refl s.heap.objs.size)
  generalize hpp : s.heap.objs.size = p at hp
  have I1 : Inv X pins σ (upd H p (DNo p [])) { s with heap := s.heap.push { cls := .type "dict", data := .dict #[] } } :=
    I.laid (t' := s.toks) (fun _ _ q => Heap.get?_push_of_some _ q) (Nat.le_of_eq hpp) (dn_obj (dn_new X.prog X.w s.heap hpp.symm I.big))
  have pp : PPs X pos [some pk] [pv] [(tEv X.K c k, tEv X.K c v)] := pps_cons h1 h2 pps_nil
  have sh := zip_pairTrees [some pk] [pv] X.env pos rfl rfl
  rw [arm_eval_Dict, sh, dictDisplay_pairs (pairTrees [some pk] [pv] X.env pos) (by intro z; have := pairTrees_length [some pk] [pv] X.env pos rfl rfl; rw [z] at this; cases this) (by rw [pairTrees_length [some pk] [pv] X.env pos rfl rfl]; show 1 < 17; decide)]
  refine wpAny_bind (wpAny_standAt (wpAny_bind (wpAny_subDictH (knd := nestedKind X.prog X.w) (by show X.A.units + 8 < cLine; omega) (by rw [pairTrees_length [some pk] [pv] X.env pos rfl rfl]; show 1 ≤ 15; decide) ?_)))
  rw [hpp]
  refine thn (pp.run pins _ σ _ (fun ps' H2 => ∃ F1 sa1, Wd X.K c.base F1 sa1 st1 H2 ∧ Ext c.base F sa st (upd H p (DNo p [])) F1 sa1 st1 H2 ∧ Dps X.K F1 sa1 ps' ps) I1 ?_) fun ws s2 hw => ?_
  · exact trs_ok (kvs := .cons k v .nil) (W.junk hp) R e1 fun vs1 F1 sa1 H1 W1 E1 q1 => ⟨F1, sa1, W1, E1, q1⟩
  obtain ⟨ps', H2, I2, rel, F1, sa1, W1, E1, qs⟩ := hw
  -- one pair
  obtain ⟨k1, v1, rfl⟩ := evPs_one e1
  cases qs with
  | @cons xk xv _ _ _ _ qk qv qs =>
    cases qs
    cases rel with
    | cons rr rs =>
      cases rs
      simp only [dmake] at e2
      split at e2 <;> try (cases e2; done)
      rename_i hk
      have hk' := keyFits_t hk
      simp only [dput, kfind, Option.some.injEq, Prod.mk.injEq] at e2
      obtain ⟨rfl, rfl⟩ := e2
      obtain ⟨b, hb, rfl, hkey⟩ := is_key I2 W1.sub qk hk' rr.1
      rename_i wv
      obtain ⟨u1, u2⟩ := wv
      obtain ⟨rr1, rr2⟩ := rr
      have hb : u1 = .ref b := hb
      subst hb
      have hpH : H2 p = some (DNo p []) := E1.fr p _ upd_same (W.notin hp)
      have np : p ∉ sa1 := fun z => by
        have := E1.new p z (W.notin hp)
        rw [upd_same] at this; cases this
      have nf : F1 p = none := by
        cases q : F1 p with
        | none => rfl
        | some o =>
          rcases E1.fz p o q with z | z | z
          · rw [W.fnone hp] at z; cases z
          · rw [upd_same] at z; cases z
          · exact absurd z (W.notin hp)
      obtain ⟨qq, _, _⟩ : ObjOk X.prog X.w H2 s2.heap p (.ext _) := I2.hok p _ hpH
      obtain ⟨b1, b2, ys, tw, dd⟩ := dn_raw (P := X.prog) (w := X.w) qq (fun x hx => nomatch hx)
      cases tw
      refine ⟨[(nk k1, b, u2)], ⟨rfl, rfl, hkey, trivial⟩, dd, fun h' tk dd' sb => ?_⟩
      refine wpAny_pure ?_
      have e5 : storedAllH [] [(nk k1, b, u2)] = [(nk k1, b, u2)] := rfl
      rw [e5] at dd'
      have hnew : DNok p [(nk k1, b, xv)] h' := dn_back b1 (by show 1 ≤ sizeLine; decide) (fun x hx => by
        have : x = (nk k1, b, xv) := by simpa using hx
        rw [this]; exact nk_noT 8 k1 (tkey_of hk')) (.cons ⟨rfl, rfl, rr2⟩ .nil) dd'
      obtain ⟨ob, _, _, ho, _⟩ := id dd'
      refine ⟨.ref p, _, d_write I2 (by rw [hpH]; exact True.intro) sb ⟨_, ho⟩ (dn_obj hnew), rfl, ?_⟩
      simp only [new, if_true, Option.some.injEq, Prod.mk.injEq] at e3
      obtain ⟨rfl, rfl⟩ := e3
      refine O _ F1 (sa1 ++ [p]) _ (W1.boxed2 nf np ⟨_, _, _, upd_same, .t [(nk k1, b, xv)] rfl (by simp [keysT, hk']) (by simp [nks]), .one qk, .one qv⟩) (((Ext.junk hp).trans E1).boxed2 W1 hp) (.box ?_)
      rw [← W1.len]; simp
end
end Ev

namespace Ev
open PySem PySem.Spec PyProof.Rows L2
section
variable {X : Cx} {pins : List (Addr × Obj)} {σ : L2.St} {H : Hp} {s : Shared} {d : Addr} {o : Obj} {xs : List (NEn V)}
theorem frzN (I : Inv X pins σ H s) (h : H d = some (.frz o (DNo d xs))) : (d == sysModules) = false ∧ s.heap.get? d = some o ∧ o.ExactDict ∧ xs.length ≤ sizeLine ∧
    ∃ (es : Array DictEntry) (ep : Nat), o.data = .dict es ep ∧ es.size = xs.length ∧ ∀ (i : Nat) (x : NEn V), xs[i]? = some x → ∃ en, es[i]? = some en ∧ en.key = .ref x.2.1 ∧ RelV x.2.2 en.val := by
  obtain ⟨hd, q, _, _⟩ : s.heap.get? d = some o ∧ ObjOk X.prog X.w H s.heap d (.ext (DNok d xs)) := I.hok d _ h
  obtain ⟨b1, b2, b3, P, w, ys, t, nd, o', es, ep, g1, g2, g3, g4⟩ := q
  rw [hd] at g1
  cases g1
  refine ⟨b1, hd, g2, b2, es, ep, g3, ?_, fun i x hx => ?_⟩
  · rw [size_of_entries g4, t.len]
  · obtain ⟨y, hy, e1, e2, r⟩ := t.get hx
    have := entry_at g4 i
    rw [hy] at this
    exact ⟨_, this, by rw [e2]; rfl, r⟩
end
/-- the keys of the dict at d that stands so for good -/
def ItN (d : Addr) (o : Obj) (xs : List (NEn V)) : It :=
  ⟨fun i H => H d = some (.frz o (DNo d xs)) ∧ i < xs.length, fun i H v H' => H' = H ∧ ∃ x, xs[i]? = some x ∧ v = .ref x.2.1, fun i H => H d = some (.frz o (DNo d xs)) ∧ xs.length ≤ i⟩
/-- its pairs, each a new tuple -/
def ItP (d : Addr) (o : Obj) (xs : List (NEn V)) : It :=
  ⟨fun i H => H d = some (.frz o (DNo d xs)) ∧ i < xs.length, fun i H v H' => ∃ T x, xs[i]? = some x ∧ v = .ref T ∧ H T = none ∧ H' = upd H T (.tup [.ref x.2.1, x.2.2]), fun i H => H d = some (.frz o (DNo d xs)) ∧ xs.length ≤ i⟩
section
variable {P : Program} {w : World} {K : PySem.W.Frag} {d : Addr} {o : Obj} {es : Array DictEntry} {ep : Nat} {xs : List (NEn V)}
theorem ep_one {es' : Array DictEntry} {ep' : Nat} (h : o.data = .dict es ep) (h' : o.data = .dict es' ep') : es' = es ∧ ep' = ep := by
  rw [h] at h'; cases h'; exact ⟨rfl, rfl⟩
theorem turnN {tg : Expr} (it : Addr) (hod : o.data = .dict es ep) : Turn P w K tg (ItN d o xs) [it] it (fun i h => h.IsKeyIter it d i xs.length ep) where
  mem := List.mem_singleton.mpr rfl
  obj := fun i h st b hb => by
    cases List.mem_singleton.mp hb
    obtain ⟨oi, e, c, dd⟩ := st
    exact ⟨oi, e, fun v z => by rw [dd] at z; cases z⟩
  keep := fun i h h' st k => st.at fun oi e => k it (List.mem_singleton.mpr rfl) oi e
  item := by
    intro X hP hw hK hc i pins s σ H E I hf st ⟨hd, hi⟩
    subst hP hw hK
    obtain ⟨f0, f1, f2, f3, f4, f5⟩ := hf it (List.mem_singleton.mpr rfl)
    obtain ⟨low, there, _, _, es', ep', hdt, hsz, ent⟩ := frzN I hd
    obtain ⟨rfl, rfl⟩ := ep_one hod hdt
    have hx : xs[i]? = some xs[i] := List.getElem?_eq_getElem hi
    obtain ⟨en, hen, hkey, _⟩ := ent i _ hx
    refine next_key_item st there hdt hsz hen fun h' st' sb => ?_
    have J : Inv X pins σ H { s with heap := h' } := I.turned (t' := s.toks) (fun b ob hb e => (sb.2 b hb).trans e) f0 f1 f3 f4 f5
    obtain ⟨oi, e, c, dd⟩ := id st'
    refine ⟨en.key, rfl, go_of (s := { s with heap := h' }) e c dd (by decide) ⟨.ref xs[i].2.1, H, J, hkey, ⟨rfl, xs[i], hx, rfl⟩, st', fun b hb => (hf b hb).1⟩⟩
  done := by
    intro X hP hw hK hc i pins s σ H E I hf st ⟨hd, hi⟩
    subst hP hw hK
    obtain ⟨f0, f1, f2, f3, f4, f5⟩ := hf it (List.mem_singleton.mpr rfl)
    obtain ⟨low, there, _, _, es', ep', hdt, hsz, ent⟩ := frzN I hd
    obtain ⟨rfl, rfl⟩ := ep_one hod hdt
    exact next_key_end (I.ok.hd hc) st there hdt hsz hi fun h' eb => ⟨rfl, I.turned (t' := s.toks) (fun b ob hb e => eb b ob hb e) f0 f1 f3 f4 f5⟩
  self := fun A i s Q E st h => wpAny_pyIter_keyiter st h
theorem turnP {elts : List Expr} {kk : Nat} {tpos : Pos} (it : Addr) (hod : o.data = .dict es ep) : Turn P w K (.Tuple elts kk tpos) (ItP d o xs) [it] it (fun i h => ∃ ok ov, IsItemIter h it d i xs.length ep ok ov) where
  mem := List.mem_singleton.mpr rfl
  obj := fun i h st b hb => by
    cases List.mem_singleton.mp hb
    obtain ⟨ok, ov, e⟩ := st
    exact ⟨_, e, fun v z => nomatch z⟩
  keep := fun i h h' st k => let ⟨ok, ov, e⟩ := st; ⟨ok, ov, k it (List.mem_singleton.mpr rfl) _ e⟩
  item := by
    intro X hP hw hK hc i pins s σ H E I hf st ⟨hd, hi⟩
    subst hP hw hK
    obtain ⟨low, there, hx, _, es', ep', hdt, hsz, ent⟩ := frzN I hd
    obtain ⟨rfl, rfl⟩ := ep_one hod hdt
    have hxi : xs[i]? = some xs[i] := List.getElem?_eq_getElem hi
    obtain ⟨en, hen, hkey, hval⟩ := ent i _ hxi
    obtain ⟨ok, ov, he⟩ := st
    rw [← hsz] at he
    have hlt : it < s.heap.objs.size := Heap.lt_size he
    have hi' : i < es'.size := by omega
    have ee : es'[i] = en := by
      have := Array.getElem?_eq_getElem hi'
      rw [this] at hen
      exact Option.some.inj hen
    refine wpAny_pyNext_items_item_raw he ⟨o, there, hx, hdt⟩ hi' fun h' ho hT hz hk => ?_
    rw [ee] at ho hT
    refine ⟨_, rfl, wpAny_letOwnedTupleGo_items (s := { s with heap := h' }) ho fun h'' he' sb => ?_⟩
    have hT2 : h''.get? s.heap.objs.size = some { cls := .type "tuple", data := .seq #[en.key, en.val] } := (sb.2 _ (Nat.ne_of_gt hlt)).trans hT
    have made : ObjOk X.prog X.w (upd H s.heap.objs.size (.tup [.ref xs[i].2.1, xs[i].2.2])) h'' s.heap.objs.size (.tup [.ref xs[i].2.1, xs[i].2.2]) :=
      ⟨by show 2 ≤ sizeLine; decide, [en.key, en.val], .cons hkey (.cons hval .nil), ⟨_, hT2, rfl, _, rfl⟩⟩
    have J : Inv X pins σ (upd H s.heap.objs.size (.tup [.ref xs[i].2.1, xs[i].2.2])) { s with heap := h'' } :=
      I.turnedNew (t' := s.toks) (ch := [it]) (fun b ob hb e => (sb.2 b (fun z => hb (List.mem_singleton.mpr z))).trans (hk b ob (fun z => hb (List.mem_singleton.mpr z)) e)) hf (Nat.le_refl _) made
    refine ⟨.ref s.heap.objs.size, _, J, rfl, ⟨_, xs[i], hxi, rfl, I.hok.fresh (Nat.le_refl _), rfl⟩, ⟨en.key, en.val, ?_⟩, fun b hb => ?_⟩
    · rw [← hsz]; exact he'
    · cases List.mem_singleton.mp hb
      rw [upd_ne (Nat.ne_of_lt hlt)]
      exact (hf it (List.mem_singleton.mpr rfl)).1
  done := by
    intro X hP hw hK hc i pins s σ H E I hf st ⟨hd, hi⟩
    subst hP hw hK
    obtain ⟨f0, f1, f2, f3, f4, f5⟩ := hf it (List.mem_singleton.mpr rfl)
    obtain ⟨low, there, hx, _, es', ep', hdt, hsz, ent⟩ := frzN I hd
    obtain ⟨rfl, rfl⟩ := ep_one hod hdt
    obtain ⟨ok, ov, he⟩ := st
    rw [← hsz] at he
    exact wpAny_pyNext_items_end_raw (I.ok.hd hc) he ⟨o, there, hx, hdt⟩ (by omega) fun h' eb => ⟨rfl, I.turned (t' := s.toks) (fun b ob hb e => eb b ob hb e) f0 f1 f3 f4 f5⟩
  self := fun A i s Q E st h => let ⟨_, _, e⟩ := st; PySem.W.kcp_self e h
end
section
variable {K : PySem.W.Frag} {base : Nat} {F : Hp} {sa : List Addr}
theorem map_getD {α β : Type} {f : α → β} {l : List α} {ds : List D} {g : β → V} : ∀ (i : Nat) (x : α), l[i]? = some x → (l.map f)[i]? = some (f x) := fun i x e => by rw [List.getElem?_map, e]; rfl
theorem itN_ok {d : Addr} {o : Obj} {xs : List (NEn V)} {ks : List D} (h : F d = some (.frz o (DNo d xs))) (qk : Dats K F sa (xs.map fun x => V.ref x.2.1) ks) : ItD K base F sa ks (ItN d o xs) := fun F' sa' st' H' hF hp W i => by
  have hd : H' d = some (.frz o (DNo d xs)) := W.sub _ _ (hF _ _ h)
  have hl : xs.length = ks.length := by simpa using qk.length
  refine ⟨fun e he => ?_, fun he => ⟨hd, by have := List.getElem?_eq_none_iff.mp he; omega⟩⟩
  have hi : i < xs.length := by have := (List.getElem?_eq_some_iff.mp he).1; omega
  refine ⟨⟨hd, hi⟩, fun v H'' ⟨e1, x, hx, e2⟩ => ?_⟩
  subst e1 e2
  obtain ⟨v, hv, q⟩ := qk.get he
  rw [List.getElem?_map, hx] at hv
  cases hv
  exact ⟨F', W, .refl, q.mono hF hp⟩
theorem itP_ok {d : Addr} {o : Obj} {xs : List (NEn V)} {ks vs : List D} (h : F d = some (.frz o (DNo d xs))) (qk : Dats K F sa (xs.map fun x => V.ref x.2.1) ks) (qv : Dats K F sa (xs.map fun x => x.2.2) vs) :
    ItD K base F sa ((ks.zip vs).map fun p => .tup [p.1, p.2]) (ItP d o xs) := fun F' sa' st' H' hF hp W i => by
  have hd : H' d = some (.frz o (DNo d xs)) := W.sub _ _ (hF _ _ h)
  have hl : xs.length = ks.length := by simpa using qk.length
  have hl2 : xs.length = vs.length := by simpa using qv.length
  refine ⟨fun e he => ?_, fun he => ⟨hd, by have := zip_none he; omega⟩⟩
  obtain ⟨k, v, h1, h2, rfl⟩ := zip_get he
  have hi : i < xs.length := by have := (List.getElem?_eq_some_iff.mp h1).1; omega
  refine ⟨⟨hd, hi⟩, fun z H'' ⟨T, x, hx, e1, e2, e3⟩ => ?_⟩
  subst e1 e3
  obtain ⟨v1, hv1, q1⟩ := qk.get h1
  obtain ⟨v2, hv2, q2⟩ := qv.get h2
  rw [List.getElem?_map, hx] at hv1 hv2
  cases hv1
  cases hv2
  have qq : Dats K F' sa' [V.ref x.2.1, x.2.2] [k, v] := .cons (q1.mono hF hp) (.cons (q2.mono hF hp) .nil)
  exact ⟨upd F' T (.tup [.ref x.2.1, x.2.2]), W.frozen e2, .frozen W e2, .tup (.of upd_same) (qq.mono (sub_upd (W.fnone e2)) (.refl _))⟩
theorem itK_ok {d : Addr} {o : Obj} {xs : List (Str × V)} {ks : List D} (h : F d = some (.frz o (.dK (Lx xs)))) (qk : Dats K F sa (xs.map fun p => V.str p.1) ks) : ItD K base F sa ks (Itk d o (Lx xs)) := fun F' sa' st' H' hF hp W i => by
  have hd : H' d = some (.frz o (.dK (Lx xs))) := W.sub _ _ (hF _ _ h)
  have hlx : (Lx xs).length = xs.length := by simp [Lx]
  have hl : xs.length = ks.length := by simpa using qk.length
  refine ⟨fun e he => ?_, fun he => ⟨hd, by have := List.getElem?_eq_none_iff.mp he; omega⟩⟩
  have hi : i < xs.length := by have := (List.getElem?_eq_some_iff.mp he).1; omega
  refine ⟨⟨hd, by omega⟩, fun v H'' ⟨e1, k, u, hx, e2⟩ => ?_⟩
  subst e1 e2
  obtain ⟨v, hv, q⟩ := qk.get he
  have hxi : xs[i]? = some xs[i] := List.getElem?_eq_getElem hi
  have : (Lx xs)[i]? = some (Sum.inr xs[i].1, xs[i].2) := by unfold Lx; rw [List.getElem?_map, hxi]; rfl
  rw [this] at hx
  cases hx
  rw [List.getElem?_map, hxi] at hv
  cases hv
  exact ⟨F', W, .refl, q.mono hF hp⟩
end
section
variable {X : Cx} {c : Ctx}
/-- for .. in d -/
theorem si_keys {tg p : Expr} {a : E} (h : PE X p (tEv X.K c a)) : PI X tg p (tEvI X.K c (.keys a)) := by
  refine ⟨fun pins s σ H R I ⟨F, sa, st, ρ, ds, st', W, R', e, O⟩ => ?_⟩
  simp only [evI, Option.bind_eq_some_iff] at e
  obtain ⟨⟨d1, st1⟩, e1, e2⟩ := e
  cases d1 <;> simp only at e2 <;> try (cases e2; done)
  · rename_i t ks vs
    simp only [Option.some.injEq, Prod.mk.injEq, and_true] at e2
    obtain ⟨rfl, rfl⟩ := e2
    refine thn (h.run pins s σ H _ I (kp W R' e1)) fun u s1 ⟨v1, H1, I1, r1, F1, sa1, W1, E1, q1⟩ => ?_
    cases q1 with
    | dct hF du qk qv =>
      cases r1
      cases du with
      | k xs nd =>
        obtain ⟨hs, hgd, hx, es, ep, vs', hdt, hsz, kv, hm⟩ := I1.frzK (W1.sub _ _ hF)
        refine iter_keys hs hgd hx hdt (pi_one (tk := s1.toks) I1 _ (turn_keys _ hdt) ⟨_, Heap.get?_push_size _ rfl, rfl, ?_⟩ (O _ F1 sa1 H1 W1 E1 (itK_ok hF qk)))
        rw [hsz] <;> rfl
      | t xs hk ht hnd =>
        obtain ⟨low, there, hx, _, es, ep, hdt, hsz, ent⟩ := frzN I1 (W1.sub _ _ hF)
        refine iter_keys low there hx hdt (pi_one (tk := s1.toks) I1 _ (turnN _ hdt) ⟨_, Heap.get?_push_size _ rfl, rfl, ?_⟩ (O _ F1 sa1 H1 W1 E1 (itN_ok hF qk)))
        rw [hsz] <;> rfl
/-- for a, b in d.items() -/
theorem si_items {elts : List Expr} {kk : Nat} {tpos apos cpos : Pos} {p : Expr} {a : E} (hb : plainBase p = true) (hl : (apos.endLine == cpos.line) = true) (h : PE X p (tEv X.K c a)) : PI X (.Tuple elts kk tpos) (.Call (.Attribute p "items" apos) [] [] cpos) (tEvI X.K c (.items a)) := by
  refine ⟨fun pins s σ H R I ⟨F, sa, st, ρ, ds, st', W, R', e, O⟩ => ?_⟩
  simp only [evI, Option.bind_eq_some_iff] at e
  obtain ⟨⟨d1, st1⟩, e1, e2⟩ := e
  cases d1 <;> simp only at e2 <;> try (cases e2; done)
  rename_i t ks vs
  cases t <;> simp only [if_true, Bool.false_eq_true, if_false] at e2 <;> try (cases e2; done)
  simp only [Option.some.injEq, Prod.mk.injEq, and_true] at e2
  obtain ⟨rfl, rfl⟩ := e2
  refine wpAny_Call_method (T := "dict") (id := "dict.items") (base_ok hb) rfl hl PySem.F.plainAttrs_dict PySem.F.slot_dict_items PySem.F.type_dict_items (thn (h.run pins s σ H _ I (kp W R' e1)) fun u s1 ⟨v1, H1, I1, r1, F1, sa1, W1, E1, q1⟩ => ?_)
  cases q1 with
  | @dct d o _ _ _ _ _ _ hF du qk qv =>
    cases r1
    cases du with
    | t xs hk ht hnd =>
      obtain ⟨low, there, hx, _, es, ep, hdt, hsz, ent⟩ := frzN I1 (W1.sub _ _ hF)
      have raw : s1.heap.DictRaw d es ep := ⟨o, there, hx, hdt⟩
      refine ⟨raw.typeIs, fun b z => by cases z; exact ⟨o, there, hx.2.1⟩, ?_⟩
      have I2 : Inv X pins σ H1 { s1 with heap := s1.heap.push { cls := .type "dict_items", data := .fields #[.ref d] } } := I1.kept (t' := s1.toks) fun b ob q => Heap.get?_push_of_some _ q
      have fin : wpAny (model X.prog X.w) X.A (pyIter (.ref s1.heap.objs.size)) (PIE X pins σ (.Tuple elts kk tpos) R) X.xe { s1 with heap := s1.heap.push { cls := .type "dict_items", data := .fields #[.ref d] } } := by
        refine wpAny_pyIter_items_raw (d := d) ⟨_, Heap.get?_push_size _ rfl, rfl, rfl⟩ (raw.at fun ob q => Heap.get?_push_of_some _ q) (pi_one (tk := s1.toks) I2 _ (turnP _ hdt) ⟨.none, .none, ?_⟩ (O _ F1 sa1 H1 W1 E1 (itP_ok hF qk qv)))
        rw [← hsz]
        exact Heap.get?_push_size _ rfl
      show wpAny _ _ (callWith cpos (.builtin "dict.items") [.ref d] [] []) _ X.xe s1
      exact method_meetsIn PySem.F.slot_dict_items PySem.F.entry_dict_items rfl (PySem.evalArgs_none ⟨rfl, raw.typeIs, PySem.F.args_dict_items_1 _, _, meets_dict_items_raw d low, ⟨es, ep, raw⟩, fin⟩)
end
end Ev

namespace Ev
open PySem PySem.Spec PyProof.Rows L2
/-- the pair y, z may be put into the dict at D -/
def PutN (K : PySem.W.Frag) (L : Addr) (y z : V) (H : Hp) (Nx : Hp → Prop) : Prop := ∃ (base : Nat) (F : Hp) (sa : List Addr) (st : Store) (xs : List (NEn V)) (ks : List D) (k : D),
  Wd K base F sa st H ∧ H L = some (DNo L xs) ∧ Dats K F sa (xs.map fun x => V.ref x.2.1) ks ∧ xs.map (·.1) = nks ks ∧ keysT ks = true ∧ Dat K F sa y k ∧ keyT k = true ∧ xs.length < sizeLine ∧
    ∀ b, y = .ref b → Nx (upd H L (DNo L (nput xs (kfind ks k) (nk k) b z)))
section
variable {X : Cx}
theorem put_N (hu : X.A.units + 66 < cLine) {pins : List (Addr × Obj)} {σ : L2.St} {H : Hp} {s : Shared} {E : Value → Shared → Prop} {D : Addr} {y z : V} {u r : Value} {Nx : Hp → Prop} {Q : Unit → Shared → Prop} (I : Inv X pins σ H s) (h : PutN X.K D y z H Nx)
    (ry : RelV y u) (rz : RelV z r) (hQ : ∀ H' s', Nx H' → Inv X pins σ H' s' → Q () s') : wpAny (model X.prog X.w) X.A (dictSet D u r) Q E s := by
  obtain ⟨base, F, sa, st, xs, ks, k, W, hD, qk, hk, ht, q, hkT, hsz, nx⟩ := h
  obtain ⟨b, rfl, rfl, key⟩ := is_key I W.sub q hkT ry
  obtain ⟨qq, _, _⟩ : ObjOk X.prog X.w H s.heap D (.ext (DNok D xs)) := I.hok D _ hD
  obtain ⟨b1, b2, ys, tw, dd⟩ := dn_raw (P := X.prog) (w := X.w) qq (keys_in I W.sub qk hk ht)
  obtain ⟨_, _, _, _, _, _, _, _, nd⟩ := id dd
  have b3 := qq.2.2.1
  have e1 : storedH ys (nk k) b r = nput ys (kfind ks k) (nk k) b r := storedH_nput hkT ht (by rw [tw.keys]; exact hk) nd
  refine wpAny_dictSet_heap (hsz := by rw [← tw.len]; exact b2) (by show X.A.units + 8 < cLine; omega) key dd fun h' dd' sb => ?_
  rw [e1] at dd'
  have few : (nput xs (kfind ks k) (nk k) b z).length ≤ sizeLine := by
    have := nput_len (xs := xs) (i := kfind ks k) (k := nk k) (a := b) (v := z)
    omega
  have nt : ∀ x ∈ nput xs (kfind ks k) (nk k) b z, noT x.1 = true := fun x hx => by
    rcases nput_mem hx with ⟨y, hy, e, _⟩ | ⟨e, _⟩
    · rw [← e]; exact b3 y hy
    · rw [e]; exact nk_noT 8 k (tkey_of hkT)
  have made := dn_back b1 few nt (tw.put rz (kfind ks k)) dd'
  obtain ⟨ob, _, _, ho, _⟩ := id dd'
  exact hQ _ _ (nx b rfl) (d_write I (by rw [hD]; exact True.intro) sb ⟨_, ho⟩ (dn_obj made))
/-- {k: v for target in iter if ..} with keys that are tuples; D the new dict -/
def tDcN (K : PySem.W.Frag) (wi : TI) (g : TG) (tt : TT) (tk tv : TE) (vs : List Nat) : TE := fun σ H Q => wi σ H fun J H1 => ∀ D, H1 D = none → ∃ W : Nat → Nat → Hp → Prop, (∃ m, W 0 m (upd H1 D (DNo D []))) ∧ ∀ i m H, W i m H →
  (J.stop i H ∧ Q (.ref D) H) ∨ (J.go i H ∧ ∃ Nx : Hp → Prop, (∀ H', Nx H' → ∃ m', m' < m ∧ W (i + 1) m' H') ∧ ∀ x H', J.yld i H x H' → g x (L2.wipe σ vs) H' fun σ2 H2 => L2.wipe σ2 vs = L2.wipe σ vs ∧ tt σ2 H2 fun b H3 =>
    if b = true then tk σ2 H3 fun y H4 => tv σ2 H4 fun z H5 => PutN K D y z H5 Nx else Nx H3)
theorem dcn_core (hu : X.A.units + 66 < cLine) {pins : List (Addr × Obj)} {s : Shared} {σ : L2.St} {H : Hp} {Q : VK} {kx vx tg iter : Expr} {ifs : List Expr} {scope : Scope} {own : List (Str × Nat)} {pos pos' : Pos} {wi : TI} {g : TG} {tt : TT} {tk tv : TE} {use : Option (Value → Sem Unit)} {Qf : Value → Shared → Prop}
    (calm : X.calm = true) (nodup : X.N.Nodup) (I : Inv X pins σ H s) (walk : PI X tg iter wi) (blk : BlkOk X.N X.env.scope scope own)
    (pgs : ∀ s H C cl fp, PG (X.blk s H scope (compEnvC scope cl C X.env) fp) tg g) (pts : ∀ s H C cl fp, PTs (X.blk s H scope (compEnvC scope cl C X.env) fp) ifs tt)
    (pks : ∀ s H C cl fp, PE (X.blk s H scope (compEnvC scope cl C X.env) fp) kx tk) (pvs : ∀ s H C cl fp, PE (X.blk s H scope (compEnvC scope cl C X.env) fp) vx tv) (fold : ∀ x, foldedSetIterable iter X.env x = pure x)
    (read : tDcN X.K wi g tt tk tv (own.map (·.2)) σ H Q)
    (post : ∀ D C s' m H', Inv X pins σ H' s' → Q (.ref D) H' → s'.heap.Ns C m → FpOk X pins H' C → compPost (model X.prog X.w) X.A X.xe use Qf (.ref D) C (.ok .next) s') :
    wpAny (model X.prog X.w) X.A (comprehension (.DictComp kx vx [⟨tg, iter, ifs, 0⟩] scope pos) scope X.env pos' newDict false (eval iter X.env) use) Qf X.xe s := by
  have frees : ∀ y ∈ scope.names, y.2 = .free → ∃ c, X.env.cells.lookup y.1 = some c := fun y hy e => (blk.free y hy e).elim (fun k => I.ok.has _ (.inl k)) fun k => I.ok.has _ (.inr k)
  refine wpAny_comprehension_free (use := use) rfl fold (closure_ok frees) blk.kind (fun y hy e => by rw [blk.uniq y hy, e]) ?_
  refine thn (walk.run pins s σ H _ I read) fun xv s1 hx => thn hx fun itv s2 hit => ?_
  obtain ⟨it, fp, tn, J, H2, rfl, I2, T, st2, f2, q⟩ := hit
  refine wpAny_newObj_type (newEnv_comp ?_)
  generalize hD : s2.heap.objs.size = D
  have fresh : H2 D = none := I2.hok.fresh (Nat.le_of_eq hD)
  obtain ⟨W, ⟨m0, w0⟩, turn⟩ := q D fresh
  generalize hs3 : ({ s2 with heap := s2.heap.push { cls := .type "dict", data := .dict #[] } } : Shared) = s3
  have heap3 : s3.heap = s2.heap.push { cls := .type "dict", data := .dict #[] } := by rw [← hs3]
  have I3 : Inv X pins σ (upd H2 D (DNo D [])) s3 := by
    rw [← hs3]
    exact I2.laid (t' := s2.toks) (fun b o e => Heap.get?_push_of_some _ e) (Nat.le_of_eq hD) (dn_obj (dn_new X.prog X.w s2.heap hD.symm I2.big))
  have below : ∀ b ∈ fp, b < s2.heap.objs.size := fun b hb => let ⟨o, e, _⟩ := T.obj _ _ st2 b hb; Heap.lt_size e
  have f3 : ∀ b ∈ fp, FpOk X pins (upd H2 D (DNo D [])) b ∧ b < s3.heap.objs.size := fun b hb => by
    have hlt := below b hb
    refine ⟨⟨?_, (f2 b hb).2⟩, by rw [heap3, Heap.size_push]; exact Nat.lt_succ_of_lt hlt⟩
    rw [upd_ne (by rw [← hD]; exact Nat.ne_of_lt hlt)]
    exact (f2 b hb).1
  have turn3 : tn 0 s3.heap := T.keep _ _ _ st2 fun b _ o e => by rw [heap3]; exact Heap.get?_push_of_some _ e
  have I4 := block_start I3 blk nodup f3
  generalize hcl : cellsFrom (s3.heap.objs.size + 1) scope.names (cloFrom X.env.cells scope.names []) = cl at I4
  have pg := pgs s3 (upd H2 D (DNo D [])) s3.heap.objs.size cl fp
  have pt := pts s3 (upd H2 D (DNo D [])) s3.heap.objs.size cl fp
  have pk := pks s3 (upd H2 D (DNo D [])) s3.heap.objs.size cl fp
  have pv := pvs s3 (upd H2 D (DNo D [])) s3.heap.objs.size cl fp
  show codeAny _ _ (.compStart (.DictComp kx vx [⟨tg, iter, ifs, 0⟩] scope pos) 0 (.ref it) (.ref D) (compEnvC scope cl s3.heap.objs.size X.env)) (compPost (model X.prog X.w) X.A X.xe use Qf (.ref D) s3.heap.objs.size) { s3 with heap := pushCells (s3.heap.push { cls := .type "dict", data := .dict #[] }) scope.names }
  have clear : ∀ b ∈ fp, (upd H2 D (DNo D [])) b = none := fun b hb => (f3 b hb).1.1
  generalize hce : compEnvC scope cl s3.heap.objs.size X.env = ce at I4 pg pt pk pv ⊢
  have locs : ce.locals = s3.heap.objs.size := by subst hce; rfl
  generalize hH3 : upd H2 D (DNo D []) = H3 at I3 I4 pg pt pk pv w0 clear f3
  generalize hs4 : ({ s3 with heap := pushCells (s3.heap.push { cls := .type "dict", data := .dict #[] }) scope.names } : Shared) = s4 at I4 ⊢
  have turn4 : tn 0 s4.heap := T.keep _ _ _ turn3 fun b _ o e => by rw [← hs4]; exact pushCells_keeps _ _ _ _ (Heap.get?_push_of_some _ e)
  have fps : ∀ {σ' : L2.St} {H' : Hp} {s' : Shared}, Inv (X.blk s3 H3 scope ce fp) [] σ' H' s' → (∀ b ∈ fp, H' b = none) → ∀ b ∈ fp, FpOk (X.blk s3 H3 scope ce fp) [] H' b := fun {σ' H' s'} I' hn b hb =>
    ⟨hn b hb, (I'.ok.exf b hb).1, I'.ok.exfs b hb, .inl hb, fun x c e => (I'.ok.exf b hb).2 x c e, fun p hp => absurd (show p ∈ ([] : List (Addr × Obj)) ++ [] from hp) (by simp)⟩
  have all : codeAny (model X.prog X.w) X.A (.compLoop (.DictComp kx vx [⟨tg, iter, ifs, 0⟩] scope pos) 0 (.ref it) (.ref D) ce) (compPost (model X.prog X.w) X.A X.xe use Qf (.ref D) s3.heap.objs.size) s4 := by
    refine compLoop_anyD (fun n s' => ∃ i H', Inv (X.blk s3 H3 scope ce fp) [] (L2.wipe σ (own.map (·.2))) H' s' ∧ tn i s'.heap ∧ (∀ b ∈ fp, H' b = none) ∧ W i n H') ?_ m0 ⟨0, H3, I4, turn4, clear, w0⟩
    rintro n s5 ⟨i, H5, I5, st5, n5, w5⟩
    rcases turn i n H5 w5 with ⟨stop, qq⟩ | ⟨go, Nx, hNx, step⟩
    · refine thnF (T.done (X.blk s3 H3 scope ce fp) rfl rfl rfl calm i [] s5 _ H5 (fun _ _ => False) I5 (fps I5 n5) st5 stop) fun r s6 ⟨hr, I6⟩ => ?_
      subst hr
      have I7 : Inv X pins σ H5 s6 := I3.call' (ch := fp) I6.os I6.base I6.hok I6.bare fun b hb => let z := (f3 b hb).1; ⟨z.2.2.2.1, z.2.1, z.2.2.2.2.1, z.2.2.2.2.2⟩
      have nC : H5 s3.heap.objs.size = none := by rw [← locs]; exact I6.free
      obtain ⟨m, hn, _⟩ := I6.loc
      exact post D s3.heap.objs.size s6 m H5 I7 qq (by rw [← locs]; exact hn) (I3.fpOk (Nat.le_refl _) nC)
    · refine thnF (T.item (X.blk s3 H3 scope ce fp) rfl rfl rfl calm i [] s5 _ H5 (fun _ _ => False) I5 (fps I5 n5) st5 go) fun r s6 ⟨u, hr, h6⟩ => ?_
      subst hr
      refine thnF h6 fun _ s7 ⟨x, H7, I7, r7, y7, st7, n7⟩ => ?_
      have J7 := I7.pinned (fps I7 n7) (T.obj _ _ st7)
      refine thnF (pg.run _ s7 _ H7 x u _ J7 r7 (step x H7 y7)) fun _ s8 ⟨σ8, H8, I8, hw8, q8⟩ => thnF (pt.run _ s8 σ8 H8 _ I8 q8) fun b s9 ⟨H9, I9, q9⟩ => ?_
      have next : ∀ {s' : Shared} {H' : Hp}, Inv (X.blk s3 H3 scope ce fp) ([] ++ pinsAt fp s7.heap) σ8 H' s' → Nx H' → ∃ m, m < n ∧ ∃ i H', Inv (X.blk s3 H3 scope ce fp) [] (L2.wipe σ (own.map (·.2))) H' s' ∧ tn i s'.heap ∧ (∀ b ∈ fp, H' b = none) ∧ W i m H' := fun {s' H'} I' nx => by
        obtain ⟨m', hm, w'⟩ := hNx H' nx
        have kept : ∀ b ∈ fp, ∀ o, s7.heap.get? b = some o → s'.heap.get? b = some o ∧ H' b = none := fun b hb o e =>
          let z := I'.pin (b, o) (List.mem_append_right _ (List.mem_append_right _ (mem_pinsAt hb e))); ⟨z.1, z.2.1⟩
        refine ⟨m', hm, i + 1, H', (I'.unpinned (pins := [])).weak (by rw [← hw8, wipe_length]) (fun j v e => (wipe_some (by rw [← hw8] at e; exact e)).1), T.keep _ _ _ st7 fun b hb o e => (kept b hb o e).1, fun b hb => ?_, w'⟩
        obtain ⟨o, e, _⟩ := T.obj _ _ st7 b hb
        exact (kept b hb o e).2
      cases b with
      | false =>
        simp only [Bool.false_eq_true, if_false] at q9 ⊢
        exact next I9 q9
      | true =>
        simp only [if_true] at q9 ⊢
        exact thnF (pk.run _ s9 σ8 H9 _ I9 q9) fun z s10 ⟨yk, H10, I10, r10, q10⟩ => thnF (pv.run _ s10 σ8 H10 _ I10 q10) fun z2 s11 ⟨yv, H11, I11, r11, put⟩ =>
          put_N (X := X.blk s3 H3 scope ce fp) hu I11 put r10 r11 fun H12 s12 nx I12 => next I12 nx
  exact codeAny_compStart_dict all (T.self X.A 0 _ _ _ turn4 all)
/-- y = {..} -/
theorem ps_dcn (hu : X.A.units + 66 < cLine) {i : Nat} {y : Str} {py : Pos} {kx vx tg iter : Expr} {ifs : List Expr} {scope : Scope} {own : List (Str × Nat)} {pos spos : Pos} {wi : TI} {g : TG} {tt : TT} {tk tv : TE} (calm : X.calm = true) (nodup : X.N.Nodup) (hy : X.N[i]? = some y) (hyl : X.env.scope.names.lookup y = some .local)
    (hsw : swapsWith (.DictComp kx vx [⟨tg, iter, ifs, 0⟩] scope pos) (some (.Name y py)) spos.line X.env = pure true) (walk : PI X tg iter wi) (blk : BlkOk X.N X.env.scope scope own)
    (pgs : ∀ s H C cl fp, PG (X.blk s H scope (compEnvC scope cl C X.env) fp) tg g) (pts : ∀ s H C cl fp, PTs (X.blk s H scope (compEnvC scope cl C X.env) fp) ifs tt)
    (pks : ∀ s H C cl fp, PE (X.blk s H scope (compEnvC scope cl C X.env) fp) kx tk) (pvs : ∀ s H C cl fp, PE (X.blk s H scope (compEnvC scope cl C X.env) fp) vx tv) (fold : ∀ x, foldedSetIterable iter X.env x = pure x) :
    PS X (.Assign [.Name y py] (.DictComp kx vx [⟨tg, iter, ifs, 0⟩] scope pos) spos) (tAsg (tDcN X.K wi g tt tk tv (own.map (·.2))) (gName i)) := by
  refine ⟨fun pins s σ H D I h => ?_⟩
  rw [exec_Assign_Name_used _ _ _ _ hsw]
  refine wpAny_bind (wpAny_standAt (wpAny_bind ?_))
  show wpAny _ X.A (do let _ ← comprehension (.DictComp kx vx [⟨tg, iter, ifs, 0⟩] scope pos) scope X.env (firstIterPos [⟨tg, iter, ifs, 0⟩] pos) newDict false (eval iter X.env) (some (assign (.Name y py) X.env))) _ _ s
  have h : tDcN X.K wi g tt tk tv (own.map (·.2)) σ H (fun x H1 => gName i x σ H1 D.nx) := h
  refine wpAny_bind (thn (dcn_core (Qf := fun _ s' => SP X pins D .next s') hu calm nodup I walk blk pgs pts pks pvs fold h fun L C s' m H' I' q hn f => ?_) fun _ s' hq => wpAny_pure (wpAny_pure hq))
  show wpAny _ _ (assign (.Name y py) X.env (.ref L)) _ _ _
  obtain ⟨f0, f1, f2, f3, f4, f5⟩ := f
  refine wpAny_assign_Name (store_ok2 (v := V.ref L) I' nodup hy (.inl hyl) rfl (fun s2 I2 ⟨a, sb, ha⟩ => ?_) (.inr hyl))
  have apart : C ≠ a := ha.elim (fun z => by rw [z]; exact f1) fun z e => f4 y a z e.symm
  exact ⟨m, hn.sameBut sb apart, fun h3 sb3 => ⟨_, H', I2.turned (t' := s2.toks) (fun b o hb e => (sb3.2 b hb).trans e) f0 f1 f3 f4 f5, q⟩⟩
theorem sw_dict {kx vx : Expr} {gs : List Comprehension} {scope : Scope} {pos py : Pos} {y : Str} {l : Nat} {env : PySem.Env} (hk : env.scope.kind = .function) (hy : env.scope.names.lookup y = some .local) (hl : (py.line == pos.line) = true)
    (ha : (scope.names.any fun (n, k) => n == y && (k == .local || k == .cell)) = false) : swapsWith (.DictComp kx vx gs scope pos) (some (.Name y py)) l env = pure true := by
  have e1 : env.kindOf y = some .local := hy
  have e2 : env.blockKind = .function := by unfold Env.blockKind; rw [hk]; rfl
  unfold swapsWith
  simp only [e2, e1, ha, Expr.pos, hl] <;> rfl
end
section
variable {X : Cx} {c : Ctx} {Γ : Gam} {top : Bool} {N : List Str} {sc : Scope}
/-- the state of a comprehension's walk: what is made stands at L -/
structure MadeN (K : PySem.W.Frag) (F : Hp) (sa : List Addr) (H : Hp) (L : Addr) (xs : List (NEn V)) (ks vs : List D) : Prop where
  at_ : H L = some (DNo L xs)
  out : L ∉ sa
  fre : F L = none
  kd : Dats K F sa (xs.map fun x => V.ref x.2.1) ks
  vd : Dats K F sa (xs.map fun x => x.2.2) vs
  keys : xs.map (·.1) = nks ks
  ok : keysT ks = true
  nd : (nks ks).Nodup
theorem MadeN.ext {K : PySem.W.Frag} {base : Nat} {F F' H H' : Hp} {sa sa' : List Addr} {st st' : Store} {L : Addr} {xs : List (NEn V)} {ks vs : List D} (m : MadeN K F sa H L xs ks vs) (E : Ext base F sa st H F' sa' st' H') : MadeN K F' sa' H' L xs ks vs := by
  obtain ⟨h1, h2, h3⟩ := E.own m.at_ m.out m.fre
  exact ⟨h1, h2, h3, m.kd.ext E, m.vd.ext E, m.keys, m.ok, m.nd⟩
theorem MadeN.put {K : PySem.W.Frag} {F H : Hp} {sa : List Addr} {L : Addr} {xs : List (NEn V)} {ks vs : List D} {k w : D} {b : Addr} {v : V} (m : MadeN K F sa H L xs ks vs) (hk : keyT k = true) (q : Dat K F sa (.ref b) k) (qw : Dat K F sa v w) :
    MadeN K F sa (upd H L (DNo L (nput xs (kfind ks k) (nk k) b v))) L (nput xs (kfind ks k) (nk k) b v) (dput ks vs k w).1 (dput ks vs k w).2 := by
  obtain ⟨a1, a2, a3⟩ := nput_refs hk m.ok m.keys m.kd q m.vd qw
  exact ⟨upd_same, m.out, m.fre, a1, a2, nput_keys m.keys, a3, dput_nodup hk m.ok m.nd⟩
/-- the walk's state at its end becomes a box -/
theorem MadeN.box {K : PySem.W.Frag} {base : Nat} {F F' H0 H' : Hp} {sa sa' : List Addr} {st st' : Store} {L : Addr} {xs : List (NEn V)} {ks vs : List D} {Q : VK} {d : D} {st2 : Store} (m : MadeN K F' sa' H' L xs ks vs) (W : Wd K base F' sa' st' H') (E : Ext base F sa st H0 F' sa' st' H') (hL : H0 L = none)
    (hn : new true (.dct true ks vs) st' = some (d, st2)) (O : Out K base F sa st H0 st2 d Q) : Q (.ref L) H' := by
  have e5 : upd H' L (DNo L xs) = H' := by
    funext b
    by_cases z : b = L
    · subst z; rw [upd_same]; exact m.at_.symm
    · rw [upd_ne z]
  simp only [new, if_true, Option.some.injEq, Prod.mk.injEq] at hn
  obtain ⟨rfl, rfl⟩ := hn
  have W2 : Wd K base F' (sa' ++ [L]) (st' ++ [.dct true ks vs]) H' := by
    have := W.boxed2 (o := DNo L xs) m.fre m.out (b := .dct true ks vs) ⟨_, _, _, upd_same, .t xs m.keys m.ok m.nd, m.kd, m.vd⟩
    rw [e5] at this; exact this
  have E2 : Ext base F sa st H0 F' (sa' ++ [L]) (st' ++ [.dct true ks vs]) H' := by
    have := E.boxed2 (o := DNo L xs) (b := .dct true ks vs) W hL
    rw [e5] at this; exact this
  exact O _ F' (sa' ++ [L]) H' W2 E2 (.box (by rw [← W.len]; simp))
/-- the step of a dict comprehension's walk -/
def dcStep (c : Ctx) (ρ : Env) (own : List Nat) (k v : E) (t : T) (g : Option E) (d : D) (acc : List D × List D) (st : Store) : Option ((List D × List D) × Store) := (bindT t d (wipeE ρ own)).bind fun ρ' =>
  (evG c g ρ' st).bind fun z => if z.1 then (evE c k ρ' z.2).bind fun q => (evE c v ρ' q.2).bind fun s => if keyFits true q.1 && decide (acc.1.length < LIM) then some (dput acc.1 acc.2 q.1 s.1, s.2) else none else some (acc, z.2)
theorem dcomp_key {own : List (Str × Nat)} {k v : E} {t : T} {it : I} {g : Option E} (hown : ∀ i ∈ T.slots t, i ∈ own.map (·.2)) :
    ∀ σ H Q, tEv X.K c (.dcomp true true (own.map (·.2)) k v t it g) σ H Q → tDcN X.K (tEvI X.K c it) (gOf X.K t) (tEvG X.K c g) (tEv X.K c k) (tEv X.K c v) (own.map (·.2)) σ H Q := fun σ H Q ⟨F, sa, st, ρ, d, st', W, R, e, O⟩ => by
  simp only [evE, Option.bind_eq_some_iff] at e
  obtain ⟨⟨⟨ds, w⟩, st1⟩, e1, e2⟩ := e
  cases w with
  | some n => cases e2
  | none =>
    simp only [Option.bind_eq_some_iff] at e2
    obtain ⟨⟨⟨ks0, vs0⟩, st2⟩, e2, e4⟩ := e2
    replace e2 : walkL (dcStep c ρ (own.map (·.2)) k v t g) ds ([], []) st1 = some ((ks0, vs0), st2) := e2
    refine ⟨F, sa, st, ρ, ds, st1, W, R, e1, fun J F1 sa1 H1 W1 E1 D1 L hL => ?_⟩
    refine ⟨fun i m H' => m = ds.length - i ∧ i ≤ ds.length ∧ ∃ F' sa' stx xs acc, Wd X.K c.base F' sa' stx H' ∧ Ext c.base F1 sa1 st1 H1 F' sa' stx H' ∧ MadeN X.K F' sa' H' L xs acc.1 acc.2 ∧ walkL (dcStep c ρ (own.map (·.2)) k v t g) (ds.drop i) acc stx = some ((ks0, vs0), st2),
      ⟨ds.length, by simp, Nat.zero_le _, F1, sa1, st1, [], ([], []), W1.junk hL, .junk hL, ⟨upd_same, W1.notin hL, W1.fnone hL, .nil, .nil, rfl, rfl, by simp [nks]⟩, by simpa using e2⟩, ?_⟩
    rintro i m H' ⟨rfl, hi', F', sa', stx, xs, acc, W', E', M, hw⟩
    have ext0 := E1.trans E'
    cases hd : ds[i]? with
    | none =>
      have hz : ds.drop i = [] := List.drop_eq_nil_of_le (List.getElem?_eq_none_iff.mp hd)
      rw [hz] at hw
      simp only [walkL, Option.some.injEq, Prod.mk.injEq] at hw
      obtain ⟨rfl, rfl⟩ := hw
      have hL0 : H L = none := by
        cases q : H L with
        | none => rfl
        | some u =>
          by_cases hin : L ∈ sa
          · exact absurd (E'.pre.mem (E1.pre.mem hin)) M.out
          · rw [E1.fr L u q hin] at hL; cases hL
      exact .inl ⟨(D1 F' sa' stx H' E'.sub E'.pre W' i).2 hd, M.box W' ext0 hL0 e4 O⟩
    | some d0 =>
      have hlt : i < ds.length := (List.getElem?_eq_some_iff.mp hd).1
      have hdr : ds.drop i = d0 :: ds.drop (i + 1) := by
        rw [List.drop_eq_getElem_cons hlt]
        congr 1
        exact (List.getElem?_eq_some_iff.mp hd).2
      rw [hdr] at hw
      simp only [walkL, Option.bind_eq_some_iff] at hw
      obtain ⟨⟨acc1, st4⟩, hstep, hrest⟩ := hw
      simp only [dcStep, Option.bind_eq_some_iff] at hstep
      obtain ⟨ρ', hb, ⟨z, st5⟩, hk, hcase⟩ := hstep
      obtain ⟨go, yl⟩ := (D1 F' sa' stx H' E'.sub E'.pre W' i).1 d0 hd
      refine .inr ⟨go, fun H'' => i + 1 ≤ ds.length ∧ ∃ F' sa' stx xs acc, Wd X.K c.base F' sa' stx H'' ∧ Ext c.base F1 sa1 st1 H1 F' sa' stx H'' ∧ MadeN X.K F' sa' H'' L xs acc.1 acc.2 ∧ walkL (dcStep c ρ (own.map (·.2)) k v t g) (ds.drop (i + 1)) acc stx = some ((ks0, vs0), st2),
        fun H'' ⟨h1, h2⟩ => ⟨ds.length - (i + 1), by omega, rfl, h1, h2⟩, fun x H'' hy => ?_⟩
      obtain ⟨F2, W2, E2, q2⟩ := yl x H'' hy
      have R2 : Rho X.K F2 sa' (L2.wipe σ (own.map (·.2))) (wipeE ρ (own.map (·.2))) := (R.wipe _).mono (ext0.sub.trans E2.sub) (ext0.pre.trans E2.pre)
      have M2 := M.ext E2
      refine bind_ok W2.sub hb q2 R2 fun σ' R3 hwp => ⟨by rw [hwp _ hown, wipe_wipe], F2, sa', stx, ρ', z, st5, W2, R3, hk, fun F3 sa3 H3 W3 E3 => ?_⟩
      have EE := (E'.trans E2).trans E3
      have M3 := M2.ext E3
      cases z with
      | true =>
        simp only [if_true, Option.bind_eq_some_iff, Option.ite_none_right_eq_some, Option.some.injEq, Prod.mk.injEq, Bool.and_eq_true, decide_eq_true_eq] at hcase ⊢
        obtain ⟨⟨dk, st6⟩, h6, ⟨dv, st7⟩, h7, ⟨hfit, hlim⟩, e6, e7⟩ := hcase
        subst e6 e7
        have hkT := keyFits_t hfit
        refine ⟨F3, sa3, st5, ρ', dk, st6, W3, R3.ext E3, h6, fun v6 F6 sa6 H6 W6 E6 q6 => ⟨F6, sa6, st6, ρ', dv, st7, W6, (R3.ext E3).ext E6, h7, fun v7 F7 sa7 H7 W7 E7 q7 => ?_⟩⟩
        have M7 := (M3.ext E6).ext E7
        have q6' := q6.ext E7
        refine ⟨c.base, F7, sa7, st7, xs, acc.1, dk, W7, M7.at_, M7.kd, M7.keys, M7.ok, q6', hkT, ?_, fun b hb => ?_⟩
        · have : xs.length = acc.1.length := by have := congrArg List.length M7.keys; simpa [nks_len] using this
          rw [sizeLine_eq]; unfold LIM at hlim; omega
        · subst hb
          exact ⟨hlt, F7, sa7, st7, _, dput acc.1 acc.2 dk dv, W7.junk2 M7.fre M7.out, ((EE.trans E6).trans E7).junk2 hL, M7.put hkT q6' q7, hrest⟩
      | false =>
        simp only [Bool.false_eq_true, if_false, Option.some.injEq, Prod.mk.injEq] at hcase ⊢
        obtain ⟨e6, e7⟩ := hcase
        subst e6 e7
        exact ⟨hlt, F3, sa3, st5, xs, acc, W3, EE, M3, hrest⟩
theorem s_dcomp (hu : X.A.units + 66 < cLine) (G : Good Γ X top N sc c) {kx vx tg iter : Expr} {ifs : List Expr} {scope : Scope} {own : List (Str × Nat)} {pos spos py : Pos} {y : Str} {i : Nat} {k v : E} {t : T} {it : I} {g : Option E} (hy : X.N[i]? = some y) (hyl : X.env.scope.names.lookup y = some .local)
    (hsw : swapsWith (.DictComp kx vx [⟨tg, iter, ifs, 0⟩] scope pos) (some (.Name y py)) spos.line X.env = pure true) (ok : BlkOk X.N X.env.scope scope own) (hown : ∀ i ∈ T.slots t, i ∈ own.map (·.2))
    (hi : PI X tg iter (tEvI X.K c it)) (hg : ∀ s H C cl fp, PG (X.blk s H scope (compEnvC scope cl C X.env) fp) tg (gOf X.K t)) (ht : ∀ s H C cl fp, PTs (X.blk s H scope (compEnvC scope cl C X.env) fp) ifs (tEvG X.K c g))
    (hk : ∀ s H C cl fp, PE (X.blk s H scope (compEnvC scope cl C X.env) fp) kx (tEv X.K c k)) (hv : ∀ s H C cl fp, PE (X.blk s H scope (compEnvC scope cl C X.env) fp) vx (tEv X.K c v)) (hs : ∀ x, foldedSetIterable iter X.env x = pure x) :
    PS X (.Assign [.Name y py] (.DictComp kx vx [⟨tg, iter, ifs, 0⟩] scope pos) spos) (tEvS X.K c (.asg (.name i) (.dcomp true true (own.map (·.2)) k v t it g))) := by
  refine (ps_dcn hu G.calm G.nd hy hyl hsw hi ok hg ht hk hv hs).imp fun D σ H h => ?_
  exact dcomp_key (X := X) hown σ H _ (asg_key D σ H h)

theorem pi_keysN {tg e : Expr} {td : TE} (he : PE X e td) : PI X tg e (fun σ H R => td σ H fun x H1 => ∃ d o xs, x = .ref d ∧ H1 d = some (.frz o (DNo d xs)) ∧ R (ItN d o xs) H1) := by
  refine ⟨fun pins s σ H R I h => thn (he.run pins s σ H _ I h) fun u s1 ⟨x, H1, I1, rx, d, o, xs, ex, hd, q⟩ => ?_⟩
  subst ex
  cases rx
  obtain ⟨low, there, hx, _, es, ep, hdt, hsz, ent⟩ := frzN I1 hd
  refine iter_keys low there hx hdt (pi_one (tk := s1.toks) I1 _ (turnN _ hdt) ⟨_, Heap.get?_push_size _ rfl, rfl, ?_⟩ q)
  rw [hsz] <;> rfl
theorem nks_take : ∀ (ks : List D) (n : Nat), nks (ks.take n) = (nks ks).take n
  | [], n => by simp [nks]
  | k :: ks, 0 => rfl
  | k :: ks, n + 1 => by simp [nks, nks_take ks n]
theorem nks_get : ∀ (ks : List D) (n : Nat), (nks ks)[n]? = (ks[n]?).map nk
  | [], n => by simp [nks]
  | k :: ks, 0 => rfl
  | k :: ks, n + 1 => by simpa [nks] using nks_get ks n
/-- a key that has not been met yet -/
theorem kfind_take {ks : List D} {i : Nat} {k : D} (ho : keysT ks = true) (nd : (nks ks).Nodup) (hk : ks[i]? = some k) : kfind (ks.take i) k = none := by
  have hkT := keysT_mem ho (List.mem_of_getElem? hk)
  have hoi : keysT (ks.take i) = true := List.all_eq_true.mpr fun x hx => keysT_mem ho (List.mem_of_mem_take hx)
  rcases kfind_nk (α := V) hkT (ks.take i) ((nks (ks.take i)).map fun n => (n, 0, V.non)) hoi (by rw [List.map_map]; simp [Function.comp_def]) with ⟨j, x, a1, a2, a3, a4, _⟩ | ⟨a1, _⟩
  · exfalso
    rw [List.getElem?_map] at a3
    have hj : j < i := by simp at a2; omega
    have e1 : (nks ks)[j]? = some (nk k) := by
      cases q : (nks (ks.take i))[j]? with
      | none => rw [q] at a3; cases a3
      | some n =>
        rw [q] at a3
        cases a3
        rw [nks_take, List.getElem?_take, if_pos hj] at q
        rw [q]; exact congrArg some a4
    have e2 : (nks ks)[i]? = some (nk k) := by rw [nks_get, hk]; rfl
    obtain ⟨l1, g1⟩ := List.getElem?_eq_some_iff.mp e1
    obtain ⟨l2, g2⟩ := List.getElem?_eq_some_iff.mp e2
    exact (List.pairwise_iff_getElem.mp nd j i l1 l2 hj) (g1.trans g2.symm)
  · exact a1
theorem s_dcp (hu : X.A.units + 66 < cLine) (G : Good Γ X top N sc c) {kx ox : Str} {p1 p2 p3 : Pos} {v : Bool} {kk : Nat} {pk : Pos} {scope : Scope} {j l : Nat} {pos spos py : Pos} {y : Str} {i : Nat} (hy : X.N[i]? = some y) (hyl : X.env.scope.names.lookup y = some .local)
    (hsw : swapsWith (.DictComp (.Name kx p1) (.Constant (.bool v) kk pk) [⟨.Name kx p2, .Name ox p3, [], 0⟩] scope pos) (some (.Name y py)) spos.line X.env = pure true) (ok : BlkOk X.N X.env.scope scope [(kx, j)])
    (ho : PE X (.Name ox p3) (tVar l)) (hg : ∀ s H C cl fp, PG (X.blk s H scope (compEnvC scope cl C X.env) fp) (.Name kx p2) (gName j)) (hk : ∀ s H C cl fp, PE (X.blk s H scope (compEnvC scope cl C X.env) fp) (.Name kx p1) (tVar j)) :
    PS X (.Assign [.Name y py] (.DictComp (.Name kx p1) (.Constant (.bool v) kk pk) [⟨.Name kx p2, .Name ox p3, [], 0⟩] scope pos) spos) (tEvS X.K c (.asg (.name i) (.dcp j (.var l) v))) := by
  refine (ps_lock (ps_dcn hu G.calm G.nd hy hyl hsw (pi_keysN ho) ok hg (fun _ _ _ _ _ => pts_nil) hk (fun _ _ _ _ _ => pe_bl) fun _ => rfl)).imp fun Dn σ H h => ?_
  obtain ⟨F, sa, st, ρ, d, st', W, R, e, O⟩ := asg_key Dn σ H h
  simp only [evE, Option.bind_eq_some_iff] at e
  obtain ⟨⟨d1, st1⟩, e1, e2⟩ := e
  split at e1 <;> try (cases e1; done)
  rename_i d1' hρ
  cases e1
  cases d1 <;> simp only at e2 <;> try (cases e2; done)
  rename_i n
  split at e2 <;> try (cases e2; done)
  rename_i t ks vs hds
  cases t <;> simp only [Bool.true_and, Bool.false_and, Bool.false_eq_true, if_false] at e2 <;> try (cases e2; done)
  obtain ⟨vv, hσ, qv⟩ := R.at_ l _ hρ
  obtain ⟨a, rfl, hn, u, kv, vv, hH, du, qk, qv⟩ := box_at W qv hds
  cases du with
  | t xs hkk hok hnd =>
    refine ⟨a, DNo a xs, hH, trivial, fun od => ?_⟩
    have und : ∀ m, m ≤ c.base → n < m → OldOk m st → (B.lk true ks vs).under m = true := fun m hm hn h => by
      have h1 := h n _ hn hds
      simp only [B.under] at h1 ⊢
      exact h1
    obtain ⟨W2, E2⟩ := W.write (o := .frz od (DNo a xs)) hn hds (fun z => nomatch z) und ⟨od, _, _, _, upd_same, .t xs hkk hok hnd, qk, qv⟩ (fun z => nomatch z)
    refine ⟨.ref a, hσ, a, od, xs, rfl, upd_same, fun L hL => ?_⟩
    have hLa : L ≠ a := fun z => by rw [z, upd_same] at hL; cases hL
    have hL0 : H L = none := by rw [upd_ne hLa] at hL; exact hL
    have hlen : xs.length = ks.length := by have := congrArg List.length hkk; simpa [nks_len] using this
    simp only [Option.ite_none_right_eq_some, Bool.and_eq_true, decide_eq_true_eq] at e2
    obtain ⟨⟨hj, hlim⟩, e2⟩ := e2
    refine ⟨fun i' m H' => m = xs.length - i' ∧ i' ≤ xs.length ∧ H' = upd (upd H a (.frz od (DNo a xs))) L (DNo L ((xs.take i').map fun x => (x.1, x.2.1, V.bl v))), ⟨xs.length, by simp, Nat.zero_le _, by simp⟩, ?_⟩
    rintro i' m H' ⟨rfl, hi', rfl⟩
    have hfrz : upd (upd H a (.frz od (DNo a xs))) L (DNo L ((xs.take i').map fun x => (x.1, x.2.1, V.bl v))) a = some (.frz od (DNo a xs)) := by rw [upd_ne (Ne.symm hLa), upd_same]
    by_cases hlt : i' < xs.length
    · have hx : xs[i']? = some xs[i'] := List.getElem?_eq_getElem hlt
      have hkx : ks[i']? = some ks[i'] := List.getElem?_eq_getElem (by omega)
      refine .inr ⟨⟨hfrz, hlt⟩, fun H'' => H'' = upd (upd H a (.frz od (DNo a xs))) L (DNo L ((xs.take (i' + 1)).map fun x => (x.1, x.2.1, V.bl v))), fun H'' e => ⟨xs.length - (i' + 1), by omega, rfl, hlt, e⟩, fun x H'' ⟨e3, x0, hx0, e4⟩ => ?_⟩
      rw [hx] at hx0
      cases hx0
      subst e3 e4
      have hwl : j < (L2.wipe σ [j]).length := by rw [wipe_length, ← R.len]; exact hj
      refine ⟨(wipe_set (List.mem_singleton.mpr rfl)).trans wipe_wipe, ?_⟩
      unfold tYes
      dsimp only
      rw [if_pos rfl]
      refine ⟨.ref xs[i'].2.1, List.getElem?_set_self hwl, ?_⟩
      have q1 : Dat X.K F sa (.ref xs[i'].2.1) ks[i'] := by
        obtain ⟨v1, hv1, q⟩ := qk.get hkx
        rw [List.getElem?_map, hx] at hv1
        cases hv1
        exact q
      have ek : xs[i'].1 = nk ks[i'] := by
        have h1 : (xs.map (·.1))[i']? = some xs[i'].1 := by rw [List.getElem?_map, hx]; rfl
        rw [hkk, nks_get, hkx] at h1
        exact (Option.some.inj h1).symm
      have hkT := keysT_mem hok (List.mem_of_getElem? hkx)
      refine ⟨c.base, F, sa, _, _, ks.take i', ks[i'], W2.junk hL, upd_same, ?_, ?_, List.all_eq_true.mpr fun x hx => keysT_mem hok (List.mem_of_mem_take hx), q1, hkT, ?_, fun b hb => ?_⟩
      · rw [List.map_map]
        have : (xs.take i').map ((fun x => V.ref x.2.1) ∘ fun (x : NEn V) => (x.1, x.2.1, V.bl v)) = (xs.map fun x => V.ref x.2.1).take i' := by rw [List.map_take]; rfl
        rw [this]; exact qk.take i'
      · rw [List.map_map]
        have : (xs.take i').map ((fun x => x.1) ∘ fun (x : NEn V) => (x.1, x.2.1, V.bl v)) = (xs.map fun x => x.1).take i' := by rw [List.map_take]; rfl
        rw [this, hkk, nks_take]
      · rw [List.length_map, List.length_take, sizeLine_eq]; unfold LIM at hlim; omega
      · cases hb
        rw [upd_upd, kfind_take hok hnd hkx]
        congr 2
        have e9 : xs.take (i' + 1) = xs.take i' ++ [xs[i']] := by rw [List.take_succ, hx]; rfl
        rw [e9, List.map_append]
        show _ ++ [(nk ks[i'], xs[i'].2.1, V.bl v)] = _ ++ [(xs[i'].1, xs[i'].2.1, V.bl v)]
        rw [ek]
    · have e0 : i' = xs.length := by omega
      subst e0
      refine .inl ⟨⟨hfrz, Nat.le_refl _⟩, hfrz, ?_⟩
      have eH : upd (upd (upd H a (.frz od (DNo a xs))) L (DNo L ((xs.take xs.length).map fun x => (x.1, x.2.1, V.bl v)))) a (DNo a xs) = upd H L (DNo L (xs.map fun x => (x.1, x.2.1, V.bl v))) := by
        funext b
        rw [List.take_length]
        by_cases z : b = a
        · subst z; rw [upd_same, upd_ne (Ne.symm hLa)]; exact hH.symm
        · rw [upd_ne z]
          by_cases z2 : b = L
          · subst z2; rw [upd_same, upd_same]
          · rw [upd_ne z2, upd_ne z2, upd_ne z]
      rw [eH]
      simp only [new, if_true, Option.some.injEq, Prod.mk.injEq] at e2
      obtain ⟨rfl, rfl⟩ := e2
      have dv : ∀ (l : List D) (m : List (NEn V)), m.length = l.length → Dats X.K F sa ((m.map fun x => (x.1, x.2.1, V.bl v)).map fun (x : NEn V) => x.2.2) (l.map fun _ => D.bl v) := by
        intro l
        induction l with
        | nil => intro m hm; cases m with
          | nil => exact .nil
          | cons _ _ => simp at hm
        | cons d ds ih => intro m hm; cases m with
          | nil => simp at hm
          | cons x m => exact .cons (.bl v) (ih m (by simpa using hm))
      refine O (.ref L) F (sa ++ [L]) _ (W.boxed hL0 ⟨_, _, _, upd_same, .t _ ?_ hok hnd, ?_, dv ks xs hlen⟩ (fun z => nomatch z)) (.boxed W hL0) (.box (by rw [← W.len]; simp))
      · rw [List.map_map]; exact hkk
      · rw [List.map_map]; exact qk
end
end Ev

namespace Ev
open PySem
theorem ltI_irr : ∀ x : List Int, ltI x x = false
  | [] => rfl
  | x :: xs => by simp [ltI, ltI_irr xs]
theorem ltI_tot : ∀ x y : List Int, ltI x y = false → ltI y x = false → x = y
  | [], [], _, _ => rfl
  | [], _ :: _, h, _ => by simp [ltI] at h
  | _ :: _, [], _, h => by simp [ltI] at h
  | x :: xs, y :: ys, h, h' => by
    simp only [ltI] at h h'
    by_cases e : x = y
    · subst e
      simp only [if_true] at h h'
      rw [ltI_tot xs ys h h']
    · rw [if_neg e] at h
      rw [if_neg (fun z => e z.symm)] at h'
      have h := of_decide_eq_false h
      have h' := of_decide_eq_false h'
      omega
theorem ltI_trans : ∀ x y z : List Int, ltI x y = true → ltI y z = true → ltI x z = true
  | [], [], _, h, _ => by simp [ltI] at h
  | _ :: _, [], _, h, _ => by simp [ltI] at h
  | _, _ :: _, [], _, h => by simp [ltI] at h
  | [], _ :: _, _ :: _, _, _ => rfl
  | x :: xs, y :: ys, z :: zs, h, h' => by
    simp only [ltI] at h h' ⊢
    by_cases e : x = y
    · subst e
      simp only [if_true] at h
      by_cases e2 : x = z
      · subst e2
        simp only [if_true] at h' ⊢
        exact ltI_trans xs ys zs h h'
      · rw [if_neg e2] at h' ⊢
        exact h'
    · rw [if_neg e] at h
      have h := of_decide_eq_true h
      by_cases e2 : y = z
      · subst e2
        rw [if_neg e]
        exact decide_eq_true h
      · rw [if_neg e2] at h'
        have h' := of_decide_eq_true h'
        rw [if_neg (by omega)]
        exact decide_eq_true (by omega)
abbrev UpI (l : List (List Int)) : Prop := l.Pairwise fun x y => ltI y x = false
theorem ins_perm (x : List Int) : ∀ l : List (List Int), (insI x l).Perm (x :: l)
  | [] => .refl _
  | y :: ys => by
    unfold insI
    split
    · exact ((ins_perm x ys).cons y).trans (.swap x y ys)
    · exact .refl _
theorem ins_up (x : List Int) : ∀ l : List (List Int), UpI l → UpI (insI x l)
  | [], _ => List.pairwise_singleton _ _
  | y :: ys, h => by
    unfold insI
    have h1 := List.pairwise_cons.mp h
    split
    · rename_i hlt
      refine List.pairwise_cons.mpr ⟨fun z hz => ?_, ins_up x ys h1.2⟩
      rcases List.mem_cons.mp ((ins_perm x ys).mem_iff.mp hz) with rfl | hz
      · cases q : ltI z y with
        | false => rfl
        | true =>
          have := ltI_trans _ _ _ hlt q
          rw [ltI_irr] at this; cases this
      · exact h1.1 z hz
    · rename_i hlt
      have hlt : ltI y x = false := by simpa using hlt
      refine List.pairwise_cons.mpr ⟨fun z hz => ?_, h⟩
      rcases List.mem_cons.mp hz with rfl | hz
      · exact hlt
      · cases q : ltI z x with
        | false => rfl
        | true =>
          -- z < x ≤ y ≤ z
          have h2 := h1.1 z hz
          by_cases e : x = y
          · subst e; rw [q] at h2; cases h2
          · have h3 : ltI x y = true := by
              cases q3 : ltI x y with
              | true => rfl
              | false => exact absurd (ltI_tot _ _ q3 hlt) e
            have := ltI_trans _ _ _ q h3
            rw [h2] at this; cases this
theorem sort_perm : ∀ l : List (List Int), (sortI l).Perm l
  | [] => .refl _
  | x :: xs => (ins_perm x (sortI xs)).trans ((sort_perm xs).cons x)
theorem sort_up : ∀ l : List (List Int), UpI (sortI l)
  | [] => .nil
  | x :: xs => ins_up x _ (sort_up xs)
theorem up_unique : ∀ {l m : List (List Int)}, l.Perm m → UpI l → UpI m → l = m
  | [], m, p, _, _ => p.nil_eq
  | x :: xs, m, p, h, h' => by
    cases m with
    | nil => exact absurd p.symm.nil_eq (by simp)
    | cons y ys =>
      have e : x = y := by
        have h1 := (List.pairwise_cons.mp h).1
        have h2 := (List.pairwise_cons.mp h').1
        rcases List.mem_cons.mp (p.mem_iff.mp (List.mem_cons_self ..)) with e | hx
        · exact e
        · rcases List.mem_cons.mp (p.mem_iff.mpr (List.mem_cons_self ..)) with e | hy
          · exact e.symm
          · exact ltI_tot _ _ (h2 x hx) (h1 y hy)
      subst e
      rw [up_unique p.cons_inv (List.pairwise_cons.mp h).2 (List.pairwise_cons.mp h').2]
theorem sort_of {l m : List (List Int)} (p : l.Perm m) (h : UpI l) : l = sortI m := up_unique (p.trans (sort_perm m).symm) h (sort_up m)
theorem dedup_mem {x : List Int} : ∀ {l : List (List Int)}, x ∈ dedup l ↔ x ∈ l
  | [] => by simp [dedup]
  | y :: ys => by
    unfold dedup
    by_cases h : (dedup ys).contains y = true
    · rw [if_pos h, dedup_mem]
      have : y ∈ ys := dedup_mem.mp (by simpa using h)
      constructor
      · exact fun z => List.mem_cons_of_mem _ z
      · intro z
        rcases List.mem_cons.mp z with rfl | z
        · exact this
        · exact z
    · rw [if_neg h]
      simp [dedup_mem]
theorem dedup_nd : ∀ l : List (List Int), (dedup l).Nodup
  | [] => List.nodup_nil
  | y :: ys => by
    unfold dedup
    by_cases h : (dedup ys).contains y = true
    · rw [if_pos h]; exact dedup_nd ys
    · rw [if_neg h]
      exact List.nodup_cons.mpr ⟨by simpa using h, dedup_nd ys⟩
/-- rows without repetition, in order, with the same members -/
theorem sort_set {l m : List (List Int)} (nd : l.Nodup) (hm : ∀ x, x ∈ l ↔ x ∈ m) (h : UpI l) : l = sortI (dedup m) := by
  refine sort_of ?_ h
  exact (List.perm_ext_iff_of_nodup nd (dedup_nd m)).mpr fun x => by rw [hm, dedup_mem]
end Ev

namespace Ev
open PySem PySem.Spec PyProof.Rows L2
abbrev noStr : Nat → Bool := fun _ => false
theorem items_ints : ∀ {vs : List Value} {ns : List Int} (i : Nat), IntsAre vs ns → PyProof.Rows.tupItems noStr i vs = some (ns.map Sum.inl)
  | [], _, _, .nil => rfl
  | _ :: _, _, i, .cons n t r => by
    show (if noStr i = true then none else (PyProof.Rows.tupItems noStr (i + 1) _).map (Sum.inl n :: ·)) = _
    rw [if_neg Bool.false_ne_true, items_ints (i + 1) r]; rfl
theorem lex_ints : ∀ a b : List Int, PyProof.Rows.lexLt PyProof.Rows.itemOrd (a.map Sum.inl) (b.map Sum.inl) = ltI a b
  | [], [] => rfl
  | [], _ :: _ => rfl
  | _ :: _, [] => rfl
  | x :: xs, y :: ys => by
    have ih := lex_ints xs ys
    show (decide (x < y) || (!decide (y < x) && PyProof.Rows.lexLt PyProof.Rows.itemOrd (xs.map Sum.inl) (ys.map Sum.inl))) = ltI (x :: xs) (y :: ys)
    rw [ih, show ltI (x :: xs) (y :: ys) = if x = y then ltI xs ys else decide (x < y) by simp only [ltI]]
    by_cases e : x = y
    · subst e; simp
    · rw [if_neg e]
      by_cases h : x < y
      · simp [h]
      · have : y < x := by omega
        simp [h, this]
theorem key_row {h : Heap} {v : Value} {ns : List Int} (t : TS.TupInts h v ns) : G.tupKeyC h noStr v = some (ns.map Sum.inl) := by
  obtain ⟨a, xs, rfl, ⟨o, ho, hc, n, hd⟩, hi⟩ := t
  have e1 : G.isTupObj h (.ref a) = true := by simp [G.isTupObj, ho, hc]
  unfold G.tupKeyC
  rw [if_pos e1]
  show (match h.get? a with | some o => _ | none => none) = _
  rw [ho]
  show (match o.data with | .seq xs _ => _ | _ => none) = _
  rw [hd]
  exact items_ints 0 hi
theorem firsts_are {h : Heap} : ∀ {vs : List Value}, (∀ v ∈ vs, ∃ ns, TS.TupInts h v ns ∧ ns ≠ []) → ∃ fs, PyProof.Rows.TupsOf h noStr vs fs
  | [], _ => ⟨[], .nil⟩
  | v :: vs, hr => by
    obtain ⟨fs, hf⟩ := firsts_are (vs := vs) fun u hu => hr u (List.mem_cons_of_mem _ hu)
    obtain ⟨ns, ⟨a, xs, rfl, ⟨o, ho, hc, n, hd⟩, hi⟩, hne⟩ := hr v List.mem_cons_self
    cases ns with
    | nil => exact absurd rfl hne
    | cons k ns =>
      cases hx : xs.toList with
      | nil => rw [hx] at hi; cases hi
      | cons f r =>
        rw [hx] at hi
        cases hi with
        | cons _ t _ =>
          refine ⟨_ :: fs, .cons ⟨a, o, xs, n, rfl, ho, hc, hd, ?_, fun _ => ⟨k, t, rfl⟩, fun z => by cases z⟩ hf⟩
          rw [← Array.getElem?_toList, hx]; rfl
section
variable {prog : Program} {w : World} {A : Around} {E : Value → Shared → Prop} {s : Shared}
/-- list.sort of rows -/
theorem sort_rows {a : Addr} {vs : List Value} {n : Nat} {P : PySem.Fin → Shared → Prop} (ho : s.heap.get? a = some (seqObj "list" vs.toArray n)) (hr : ∀ v ∈ vs, ∃ ns, TS.TupInts s.heap v ns ∧ ns ≠ []) (hL : vs.length ≤ sizeLine)
    (h : ∀ out : Array Value, out.toList.Perm vs → out.toList.Pairwise (fun u v => ltI (TS.intsOf s.heap v) (TS.intsOf s.heap u) = false) → P (.done (.ret .none)) { s with heap := sortedHeap s.heap a vs out }) :
    wpAny (model prog w) A (Builtin.«list.sort» ⟨[.ref a], []⟩) P E s := by
  obtain ⟨fs, hf⟩ := firsts_are hr
  have hk : ∀ v, v ∈ vs → ∃ l, G.tupKeyC s.heap noStr v = some l := fun v hv => let ⟨ns, t, _⟩ := hr v hv; ⟨_, key_row t⟩
  refine G.list_sort_tups (shape := noStr) ho hf hk hL fun st' pm so _ => ?_
  have hsz : (arrOf st').size = (pairsOf vs).size := pm.size_eq
  have pl : (arrOf st').toList.Perm (vs.zip vs) := by rw [← pairsOf_toList]; exact pm.toList
  have keys : KeysOf (G.tupKindC s.heap noStr) (arrOf st') := fun p hp => by
    have := mem_zip_self (pl.mem_iff.mp hp)
    exact hk p.1 this.2
  have pw := keyLe_of_sorted keys (by rw [hsz]; exact so)
  refine h _ ?_ ?_
  · rw [Array.toList_map]
    have z := pl.map Prod.snd
    rw [List.map_snd_zip (Nat.le_refl _)] at z
    exact z
  · rw [Array.toList_map, List.pairwise_map]
    refine List.Pairwise.imp_of_mem (fun {p q} hp hq hle => ?_) pw
    obtain ⟨a1, b1, h1, h2, h3⟩ := hle
    have mp := mem_zip_self (pl.mem_iff.mp hp)
    have mq := mem_zip_self (pl.mem_iff.mp hq)
    obtain ⟨np, tp, _⟩ := hr p.1 mp.2
    obtain ⟨nq, tq, _⟩ := hr q.1 mq.2
    rw [← mp.1, ← mq.1, tp.ints, tq.ints]
    have e1 : some (np.map Sum.inl) = some a1 := (key_row tp).symm.trans h1
    have e2 : some (nq.map Sum.inl) = some b1 := (key_row tq).symm.trans h2
    cases e1
    cases e2
    rw [← lex_ints]
    exact h3
end

section
variable {K : PySem.W.Frag} {F : Hp} {sa : List Addr}
/-- a value that is a row -/
def RowV (K : PySem.W.Frag) (F : Hp) (sa : List Addr) (h : Heap) (v : Value) (ns : List Int) : Prop := ∃ b, v = .ref b ∧ Dat K F sa (.ref b) (ofRow ns) ∧ TS.TupInts h v ns
theorem row_len : ∀ {ds : List D} {ns : List Int}, asInts ds = some ns → ds = ns.map .int
  | [], _, h => by simp [asInts] at h; subst h; rfl
  | d :: ds, ns, h => by
    cases d <;> simp only [asInts] at h <;> try (cases h; done)
    simp only [Option.map_eq_some_iff] at h
    obtain ⟨ns', h, rfl⟩ := h
    rw [row_len h]; rfl
theorem rowOf_eq {d : D} {ns : List Int} (h : rowOf d = some ns) : d = ofRow ns := by
  cases d <;> simp only [rowOf] at h <;> try (cases h; done)
  rw [row_len h]; rfl
end
section
variable {X : Cx} {pins : List (Addr × Obj)} {σ : L2.St} {F H : Hp} {s : Shared} {sa : List Addr}
theorem ints_of_vals {vs : List V} {ns : List Int} (q : Dats X.K F sa vs (ns.map .int)) : vs = ns.map V.int := by
  induction ns generalizing vs with
  | nil => cases q; rfl
  | cons n ns ih =>
    cases q with
    | cons q r =>
      cases q
      rw [ih r]; rfl
theorem row_val (I : Inv X pins σ H s) (hs : Sub F H) {v : V} {u : Value} {d : D} {ns : List Int} (q : Dat X.K F sa v d) (r : RelV v u) (h : rowOf d = some ns) : RowV X.K F sa s.heap u ns ∧ v = bkV u := by
  have e := rowOf_eq h
  subst e
  cases q with
  | @tup a vs _ hq qs =>
    cases r
    have ev := ints_of_vals qs
    subst ev
    exact ⟨⟨a, rfl, .tup hq qs, tupI_raw I (sqt_sub hs hq)⟩, rfl⟩
theorem rows_val (I : Inv X pins σ H s) (hs : Sub F H) : ∀ {vs : List V} {us : List Value} {ds : List D} {rs : List (List Int)}, Dats X.K F sa vs ds → Vals vs us → rows ds = some rs → Paired (RowV X.K F sa s.heap) us rs
  | _, _, _, rs, .nil, r, h => by
    cases r
    simp only [rows, Option.some.injEq] at h
    subst h; exact .nil
  | _, _, _, rs, .cons q qs, r, h => by
    cases r with
    | cons r rr =>
      simp only [rows, Option.bind_eq_some_iff, Option.map_eq_some_iff] at h
      obtain ⟨ns, h1, rs', h2, rfl⟩ := h
      exact .cons (row_val I hs q r h1).1 (rows_val I hs qs rr h2)
theorem paired_ints {h : Heap} {us : List Value} {rs : List (List Int)} (p : Paired (RowV X.K F sa h) us rs) : us.map (TS.intsOf h) = rs ∧ ∀ u ∈ us, RowV X.K F sa h u (TS.intsOf h u) := by
  induction p with
  | nil => exact ⟨rfl, fun u hu => nomatch hu⟩
  | @cons u r us rs hr _ ih =>
    obtain ⟨b, e, q, t⟩ := id hr
    refine ⟨by rw [List.map_cons, ih.1, t.ints], fun v hv => ?_⟩
    rcases List.mem_cons.mp hv with rfl | hv
    · rw [t.ints]; exact hr
    · exact ih.2 v hv
/-- values that are rows, told again -/
theorem rows_back {h : Heap} : ∀ {us : List Value}, (∀ u ∈ us, RowV X.K F sa h u (TS.intsOf h u)) → Vals (us.map bkV) us ∧ Dats X.K F sa (us.map bkV) ((us.map (TS.intsOf h)).map ofRow)
  | [], _ => ⟨.nil, .nil⟩
  | u :: us, hr => by
    obtain ⟨b, rfl, q, t⟩ := hr u List.mem_cons_self
    obtain ⟨h1, h2⟩ := rows_back (us := us) fun v hv => hr v (List.mem_cons_of_mem _ hv)
    exact ⟨.cons rfl h1, .cons q h2⟩
theorem rowsOk_ne {rs : List (List Int)} (h : rowsOk rs = true) : rs.length < 64 ∧ ∀ r ∈ rs, r ≠ [] := by
  unfold rowsOk at h
  simp only [Bool.and_eq_true, decide_eq_true_eq] at h
  refine ⟨h.1, fun r hr => ?_⟩
  cases rs with
  | nil => cases hr
  | cons r0 rs =>
    obtain ⟨_, h2⟩ := h
    simp only [Bool.and_eq_true, decide_eq_true_eq] at h2
    have h3 := List.all_eq_true.mp h2.2 r hr
    simp only [smallRow, Bool.and_eq_true, beq_iff_eq] at h3
    intro z
    subst z
    have := h3.1
    simp at this
    omega
/-- sorted(xs), xs a list of rows -/
theorem sorted_list (I : Inv X pins σ H s) {A : Around} {E : Value → Shared → Prop} {base : Nat} {st : Store} (W : Wd X.K base F sa st H) {a : Addr} {vs : List V} {ds : List D} {rs : List (List Int)} {Q : Value → Shared → Prop} (hl : SqL X.K H a vs) (q : Dats X.K F sa vs ds) (hr : rows ds = some rs) (ok : rowsOk rs = true)
    (hQ : ∀ p ys s', H p = none → Dats X.K F sa ys ((sortI rs).map ofRow) → Inv X pins σ (upd H p (.lst ys)) s' → Q (.ref p) s') : wpAny (model X.prog X.w) A (call (.builtin "sorted") [.ref a]) Q E s := by
  obtain ⟨its, rv, pl, hz⟩ := I.list hl
  have pr := rows_val I W.sub q rv hr
  obtain ⟨ei, hv⟩ := paired_ints pr
  obtain ⟨h64, hne⟩ := rowsOk_ne ok
  have hrow : ∀ v ∈ its, ∃ ns, TS.TupInts s.heap v ns ∧ ns ≠ [] := fun v hm => by
    obtain ⟨b, _, _, t⟩ := hv v hm
    exact ⟨_, t, hne _ (by rw [← ei]; exact List.mem_map_of_mem hm)⟩
  obtain ⟨fs, hf⟩ := firsts_are hrow
  have hk : ∀ v, v ∈ its → ∃ l, G.tupKeyC s.heap noStr v = some l := fun v hm => let ⟨ns, t, _⟩ := hrow v hm; ⟨_, key_row t⟩
  refine G.sorted_tups (shape := noStr) pl.isList hf hk (by rw [← rv.length]; exact hz) fun st' pm so _ => ?_
  have hsz : (arrOf st').size = (pairsOf its).size := pm.size_eq
  have zl : (arrOf st').toList.Perm (its.zip its) := by rw [← pairsOf_toList]; exact pm.toList
  have keys : KeysOf (G.tupKindC s.heap noStr) (arrOf st') := fun p hp => hk p.1 (mem_zip_self (zl.mem_iff.mp hp)).2
  have pw := keyLe_of_sorted keys (by rw [hsz]; exact so)
  generalize hout : (arrOf st').map (·.2) = out
  have op : out.toList.Perm its := by
    rw [← hout, Array.toList_map]
    have z := zl.map Prod.snd
    rw [List.map_snd_zip (Nat.le_refl _)] at z
    exact z
  have up : UpI (out.toList.map (TS.intsOf s.heap)) := by
    rw [← hout, Array.toList_map, List.map_map]
    refine List.pairwise_map.mpr (List.Pairwise.imp_of_mem (fun {p q} hp hq hle => ?_) pw)
    obtain ⟨a1, b1, h1, h2, h3⟩ := hle
    have mp := mem_zip_self (zl.mem_iff.mp hp)
    have mq := mem_zip_self (zl.mem_iff.mp hq)
    obtain ⟨np, tp, _⟩ := hrow p.1 mp.2
    obtain ⟨nq, tq, _⟩ := hrow q.1 mq.2
    show ltI (TS.intsOf s.heap q.2) (TS.intsOf s.heap p.2) = false
    rw [← mp.1, ← mq.1, tp.ints, tq.ints]
    have e1 : some (np.map Sum.inl) = some a1 := (key_row tp).symm.trans h1
    have e2 : some (nq.map Sum.inl) = some b1 := (key_row tq).symm.trans h2
    cases e1
    cases e2
    rw [← lex_ints]
    exact h3
  have er : out.toList.map (TS.intsOf s.heap) = sortI rs := sort_of (by rw [← ei]; exact op.map _) up
  obtain ⟨v1, v2⟩ := rows_back (X := X) (F := F) (sa := sa) (h := s.heap) (us := out.toList) fun u hu => hv u (op.mem_iff.mp hu)
  rw [er] at v2
  obtain ⟨ep, he⟩ := sortedAll_at s.heap its out
  have hl2 : (out.toList.map bkV).length ≤ sizeLine := by
    rw [List.length_map, op.length_eq, ← rv.length]; exact hz
  have hp : H (s.heap.objs.size + 1) = none := I.hok.fresh (by omega)
  refine hQ _ _ _ hp v2 ?_
  exact I.laid (t' := s.toks) (fun b u e => sortedAll_old e) (by omega) ⟨hl2, out.toList, ep, v1, by rw [Array.toArray_toList]; exact he⟩
end
end Ev

namespace Ev
open PySem PySem.Spec PyProof.Rows L2
section
variable {X : Cx} {pins : List (Addr × Obj)} {σ : L2.St} {F H : Hp} {s : Shared} {sa : List Addr} {base : Nat} {st : Store} {A : Around} {E : Value → Shared → Prop}
theorem acc_keys {P : Program} {w : World} {es : Array DictEntry} {ys : List (NEn Value)} {acc : Array Value} (he : es.toList = ys.map (entryOfKey (nestedKind P w))) (hn : acc.size = es.size) (ha : ∀ (j : Nat) (v : Value), acc[j]? = some v → ∃ en : DictEntry, es[j]? = some en ∧ v = en.key) :
    acc.toList = ys.map fun y => Value.ref y.2.1 := by
  have l1 : es.size = ys.length := size_of_entries he
  apply List.ext_getElem?
  intro j
  rw [List.getElem?_map]
  cases hj : acc.toList[j]? with
  | none =>
    have := List.getElem?_eq_none_iff.mp hj
    rw [Array.length_toList] at this
    rw [List.getElem?_eq_none (by omega)]; rfl
  | some v =>
    obtain ⟨en, hen, hv⟩ := ha j v (by rw [← Array.getElem?_toList]; exact hj)
    have qe := entry_at he j
    rw [hen] at qe
    cases hb : ys[j]? with
    | none => rw [hb] at qe; cases qe
    | some b =>
      rw [hb] at qe
      cases Option.some.inj qe
      rw [hv]; rfl
theorem twin_refs {xs : List (NEn V)} {ys : List (NEn Value)} (t : Twin xs ys) : Vals (xs.map fun x => V.ref x.2.1) (ys.map fun y => Value.ref y.2.1) := by
  unfold Twin at t
  induction t with
  | nil => exact .nil
  | cons h _ ih =>
    refine .cons ?_ ih
    show Value.ref _ = Value.ref _
    rw [h.2.1]
/-- a new list of rows has been sorted where it stands -/
theorem sort_made (I : Inv X pins σ H s) (hs : Sub F H) {us : List Value} {rs : List (List Int)} {p : Addr} {n : Nat} {s1 : Shared} (k : ∀ b o, s.heap.get? b = some o → s1.heap.get? b = some o) (ho : s1.heap.get? p = some (seqObj "list" us.toArray n))
    (pr : Paired (RowV X.K F sa s.heap) us rs) (ok : rowsOk rs = true) {P : PySem.Fin → Shared → Prop} {L : List (List Int)} (hL : ∀ l : List (List Int), l.Perm rs → UpI l → l = L)
    (hQ : ∀ out c ys, Vals ys out.toList → Dats X.K F sa ys (L.map ofRow) → ys.length ≤ sizeLine → (sortedHeap s1.heap p us out).get? p = some (seqObj "list" out c) → P (.done (.ret .none)) { s1 with heap := sortedHeap s1.heap p us out }) :
    wpAny (model X.prog X.w) A (Builtin.«list.sort» ⟨[.ref p], []⟩) P E s1 := by
  obtain ⟨ei, hv⟩ := paired_ints pr
  obtain ⟨h64, hne⟩ := rowsOk_ne ok
  have up1 : ∀ v ns, TS.TupInts s.heap v ns → TS.TupInts s1.heap v ns := fun v ns ⟨a, xs, e, ⟨o, ho, hc⟩, hi⟩ => ⟨a, xs, e, ⟨o, k _ _ ho, hc⟩, hi⟩
  have hlen : us.length = rs.length := by rw [← ei, List.length_map]
  refine sort_rows ho (fun v hm => ?_) (by rw [hlen, sizeLine_eq]; omega) fun out op up => ?_
  · obtain ⟨b, _, _, t⟩ := hv v hm
    exact ⟨_, up1 _ _ t, hne _ (by rw [← ei]; exact List.mem_map_of_mem hm)⟩
  · have same : ∀ u ∈ out.toList, TS.intsOf s1.heap u = TS.intsOf s.heap u := fun u hu => by
      obtain ⟨b, _, _, t⟩ := hv u (op.mem_iff.mp hu)
      exact (up1 _ _ t).ints
    have e1 : out.toList.map (TS.intsOf s.heap) = L := by
      refine hL _ (by rw [← ei]; exact op.map _) (List.pairwise_map.mpr (List.Pairwise.imp_of_mem (fun {x y} hx hy h => ?_) up))
      rw [← same x hx, ← same y hy]; exact h
    obtain ⟨v1, v2⟩ := rows_back (X := X) (F := F) (sa := sa) (h := s.heap) (us := out.toList) fun u hu => hv u (op.mem_iff.mp hu)
    rw [e1] at v2
    obtain ⟨c, hc⟩ := sortedHeap_at (vs := us) (out := out) ho
    exact hQ out c _ v1 v2 (by rw [List.length_map, op.length_eq, hlen, sizeLine_eq]; omega) hc
/-- sorted(d) -/
theorem sorted_dictN (I : Inv X pins σ H s) (W : Wd X.K base F sa st H) {a : Addr} {xs : List (NEn V)} {ys : List (NEn Value)} {ks vs : List D} (N : AtN X s F sa a xs ys ks vs) (hh : A.handled = none) {rs : List (List Int)} (hr : rows ks = some rs) (ok : rowsOk rs = true) {Q : Value → Shared → Prop}
    (hQ : ∀ p ys s', H p = none → Dats X.K F sa ys ((sortI rs).map ofRow) → Inv X pins σ (upd H p (.lst ys)) s' → Q (.ref p) s') : wpAny (model X.prog X.w) A (call (.builtin "sorted") [.ref a]) Q E s := by
  obtain ⟨o, es, ep, ho, hx, hdt, he, _, _⟩ := N.there
  have pr := rows_val I W.sub N.kd (twin_refs N.twin) hr
  have l1 : es.size = ys.length := size_of_entries he
  have l2 := N.twin.len
  have few := N.few
  refine Calls.call_function_entry PyProof.Rows.kind_sorted PyProof.Rows.plain_sorted PyProof.Rows.entry_sorted (PyProof.Rows.args_sorted1 _) ?_
  unfold Builtin.«sorted»
  refine wpAny_bind (m := checkCount "sorted" 1 1 _) (wpAny_pure ?_)
  refine wpAny_bind (PySem.W.kdu_collect (A := A.in1) (kdl_raw N.low hx hdt) hh ho (by omega) fun h' tk acc hk it => ?_)
  have ea := acc_keys he it.1 fun j v e => it.2 j v e
  rw [ea]
  refine wpAny_bind (wpAny_newList ?_ (by rw [List.length_map]; omega))
  have hoL : (h'.push (seqObj "list" (ys.map fun y => Value.ref y.2.1).toArray 0)).get? h'.objs.size = some (seqObj "list" (ys.map fun y => Value.ref y.2.1).toArray 0) := Heap.get?_push_size _ rfl
  show wpAny _ _ _ _ _ { s with heap := h'.push (seqObj "list" (ys.map fun y => Value.ref y.2.1).toArray 0), toks := tk }
  have I1 : Inv X pins σ H { s with heap := h', toks := tk } := I.kept hk
  refine wpAny_bind (wpAny_holding (wpAny_call_entry PyProof.Rows.slot_list_sort ⟨_, hoL, rfl⟩ PyProof.Rows.entry_list_sort
    (sort_made (s1 := { s with heap := h'.push (seqObj "list" (ys.map fun y => Value.ref y.2.1).toArray 0), toks := tk }) (L := sortI rs) I W.sub (fun b o e => Heap.get?_push_of_some _ (hk b o e)) hoL pr ok (fun l p u => sort_of p u) fun out c zs v1 v2 v3 hc => ⟨_, rfl, ?_⟩) (PyProof.Rows.args_list_sort _)))
  have hn : H h'.objs.size = none := I1.hok.fresh (Nat.le_refl _)
  refine wpAny_pure ⟨_, rfl, hQ _ zs _ hn v2 (I1.laid (t' := tk) (fun b u e => ?_) (Nat.le_refl _) ⟨v3, out.toList, c, v1, by rw [Array.toArray_toList]; exact hc⟩)⟩
  have hb : b < h'.objs.size := Heap.lt_size e
  rw [sortedHeap_old (Nat.ne_of_lt hb) (by rw [size_push']; exact Nat.lt_succ_of_lt hb)]
  exact Heap.get?_push_of_some _ e
/-- list(d) -/
theorem list_dictN (I : Inv X pins σ H s) {a : Addr} {xs : List (NEn V)} {ys : List (NEn Value)} {ks vs : List D} (N : AtN X s F sa a xs ys ks vs) (hh : A.handled = none) {Q : Value → Shared → Prop}
    (hQ : ∀ p s', H p = none → Inv X pins σ (upd H p (.lst (xs.map fun x => V.ref x.2.1))) s' → Q (.ref p) s') : wpAny (model X.prog X.w) A (call (.type "list") [.ref a]) Q E s := by
  obtain ⟨o, es, ep, ho, hx, hdt, he, _, _⟩ := N.there
  have l1 : es.size = ys.length := size_of_entries he
  have l2 := N.twin.len
  have few := N.few
  refine PySem.W.kdl_call (kdl_raw N.low hx hdt) hh ho (by omega) fun h' tk acc c kp e it => ?_
  have ea := acc_keys he it.1 fun j v e => it.2 j v e
  refine hQ _ _ (I.hok.fresh (Nat.le_refl _)) (I.laid (t' := tk) kp (Nat.le_refl _) ⟨by rw [List.length_map]; exact few, acc.toList, c, by rw [ea]; exact twin_refs N.twin, by rw [Array.toArray_toList]; exact e⟩)
/-- len(d) -/
theorem len_dictN (I : Inv X pins σ H s) {a : Addr} {xs : List (NEn V)} {ys : List (NEn Value)} {ks vs : List D} (N : AtN X s F sa a xs ys ks vs) {Q : Value → Shared → Prop} (hQ : ∀ t s', Inv X pins σ H s' → Q (.int ks.length t) s') : wpAny (model X.prog X.w) A (call (.builtin "len") [.ref a]) Q E s := by
  have l2 := N.twin.len
  have l3 : xs.length = ks.length := by have := congrArg List.length N.keys; simpa [nks_len] using this
  have few := N.few
  refine call_len_dictH N.low N.there (by rw [sizeLine_eq] at few; omega) ?_
  rw [← l2, l3]
  exact hQ _ _ (I.tok _)
end

section
variable {P : Program} {w : World} {A : Around} {E : Value → Shared → Prop} {s : Shared}
theorem refs_mem {L : List (Addr × List Int)} : ∀ vs : List Value, (∀ v ∈ vs, ∃ q ∈ L, v = Value.ref q.1) → ∃ L1 : List (Addr × List Int), vs = L1.map (fun q => Value.ref q.1) ∧ ∀ q ∈ L1, q ∈ L
  | [], _ => ⟨[], rfl, fun q hq => nomatch hq⟩
  | v :: vs, hv => by
    obtain ⟨q, hq, e⟩ := hv v List.mem_cons_self
    obtain ⟨L1, e1, hs⟩ := refs_mem vs fun u hu => hv u (List.mem_cons_of_mem _ hu)
    exact ⟨q :: L1, by rw [List.map_cons, e, e1], fun r hr => (List.mem_cons.mp hr).elim (fun z => by rw [z]; exact hq) (hs r)⟩
end
section
variable {X : Cx} {pins : List (Addr × Obj)} {σ : L2.St} {F H : Hp} {s : Shared} {sa : List Addr} {base : Nat} {st : Store} {E : Value → Shared → Prop}
/-- the set of rows at a, sorted -/
theorem sorted_setN (hc : X.calm = true) (I : Inv X pins σ H s) (hs : Sub F H) {a : Addr} {L : List (Addr × List Int)} (ha : H a = some (SetTO X.prog X.w a L)) (hd : ∀ p ∈ L, Dat X.K F sa (.ref p.1) (ofRow p.2)) {rs : List (List Int)} (hm : ∀ x, x ∈ L.map (·.2) ↔ x ∈ rs) (ok : rowsOk rs = true) {Q : Value → Shared → Prop}
    (hQ : ∀ p ys s', H p = none → Dats X.K F sa ys ((sortI (dedup rs)).map ofRow) → Inv X pins σ (upd H p (.lst ys)) s' → Q (.ref p) s') : wpAny (model X.prog X.w) X.A (call (.builtin "sorted") [.ref a]) Q E s := by
  have tup : ∀ p ∈ L, SqT X.K H p.1 (p.2.map V.int) := fun p hp => by
    cases hd p hp with
    | tup q qs => rw [← ints_of_vals qs]; exact sqt_sub hs q
  have R0 : SetT0 X.prog X.w s.heap a L := (I.hok a _ ha).1
  obtain ⟨es, ep, t, R⟩ := R0.full fun p hp => I.isT (tup p hp)
  obtain ⟨o, ho, hex, hdt⟩ := R.ob
  have hsz := R.size
  have hfew := R.few
  have hh := I.ok.hd hc
  refine Calls.call_function_entry PyProof.Rows.kind_sorted PyProof.Rows.plain_sorted PyProof.Rows.entry_sorted (PyProof.Rows.args_sorted1 _) ?_
  unfold Builtin.«sorted»
  refine wpAny_bind (m := checkCount "sorted" 1 1 _) (wpAny_pure ?_)
  refine wpAny_bind (collect_set (A := X.A.in1) hh ⟨o, ho, hex.1, hdt⟩ R.fits (by unfold scanBound; omega) R.tab.ris R.led fun s1 vs k1 hz g1 o1 pm => ?_)
  have hes : es.toList.map (·.2) = L.map fun q => Value.ref q.1 := by
    rw [R.rows]
    unfold rowsOf
    rw [List.map_map] <;> rfl
  rw [hes] at pm
  have rowL : ∀ q ∈ L, RowV X.K F sa s.heap (.ref q.1) q.2 := fun q hq => ⟨q.1, rfl, hd q hq, tupI_raw I (tup q hq)⟩
  obtain ⟨L1, e1, hs1⟩ := refs_mem vs fun v hv => let ⟨q, hq, e⟩ := List.mem_map.mp (pm.mem_iff.mp hv); ⟨q, hq, e.symm⟩
  have pr : Paired (RowV X.K F sa s.heap) vs (L1.map (·.2)) := by
    rw [e1]
    have : ∀ l : List (Addr × List Int), (∀ q ∈ l, q ∈ L) → Paired (RowV X.K F sa s.heap) (l.map fun q => Value.ref q.1) (l.map (·.2)) := fun l => by
      induction l with
      | nil => intro _; exact .nil
      | cons q l ih => intro h; exact .cons (rowL q (h q List.mem_cons_self)) (ih fun r hr => h r (List.mem_cons_of_mem _ hr))
    exact this L1 hs1
  -- the rows of the values are those of the set
  have pm2 : (L1.map (·.2)).Perm (L.map (·.2)) := by
    have h1 := pm.map (TS.intsOf s.heap)
    rw [(paired_ints pr).1] at h1
    have h2 : (L.map fun q => Value.ref q.1).map (TS.intsOf s.heap) = L.map (·.2) := by
      rw [List.map_map]
      exact List.map_congr_left fun q hq => (tupI_raw I (tup q hq)).ints
    rw [h2] at h1
    exact h1
  have nd : (L1.map (·.2)).Nodup := pm2.nodup_iff.mpr R.nd
  have hm1 : ∀ x, x ∈ L1.map (·.2) ↔ x ∈ rs := fun x => by rw [pm2.mem_iff]; exact hm x
  have ok1 : rowsOk (L1.map (·.2)) = true := by
    have hlen : (L1.map (·.2)).length < 64 := by rw [pm2.length_eq, List.length_map]; exact hfew
    unfold rowsOk at ok ⊢
    simp only [Bool.and_eq_true, decide_eq_true_eq] at ok ⊢
    refine ⟨hlen, ?_⟩
    cases hl1 : L1.map (·.2) with
    | nil => rfl
    | cons r0 r =>
      have m0 : r0 ∈ rs := (hm1 r0).mp (by rw [hl1]; exact List.mem_cons_self)
      cases rs with
      | nil => cases m0
      | cons q0 qs =>
        obtain ⟨_, h2⟩ := ok
        simp only [Bool.and_eq_true, decide_eq_true_eq] at h2 ⊢
        have len : ∀ x ∈ r0 :: r, smallRow q0.length x = true := fun x hx => List.all_eq_true.mp h2.2 x ((hm1 x).mp (by rw [hl1]; exact hx))
        have e0 : r0.length = q0.length := by
          have := len r0 List.mem_cons_self
          simp only [smallRow, Bool.and_eq_true, beq_iff_eq] at this
          exact this.1
        rw [e0]
        exact ⟨h2.1, List.all_eq_true.mpr len⟩
  have hvl : vs.length ≤ sizeLine := by rw [pm.length_eq, List.length_map, sizeLine_eq]; omega
  refine wpAny_bind (wpAny_newList ?_ hvl)
  have hoL : (s1.heap.push (seqObj "list" vs.toArray 0)).get? s1.heap.objs.size = some (seqObj "list" vs.toArray 0) := Heap.get?_push_size _ rfl
  refine wpAny_bind (wpAny_holding (wpAny_call_entry PyProof.Rows.slot_list_sort ⟨_, hoL, rfl⟩ PyProof.Rows.entry_list_sort
    (sort_made (s1 := { s1 with heap := s1.heap.push (seqObj "list" vs.toArray 0) }) (L := sortI (dedup rs)) I hs (fun b o e => Heap.get?_push_of_some _ (k1 b o e)) hoL pr ok1
      (fun l p u => sort_set (p.nodup_iff.mpr nd) (fun x => by rw [p.mem_iff]; exact hm1 x) u) fun out c zs v1 v2 v3 hc2 => ⟨_, rfl, ?_⟩) (PyProof.Rows.args_list_sort _)))
  have hn : H s1.heap.objs.size = none := I.hok.fresh hz
  have kp : ∀ b u, s.heap.get? b = some u → (sortedHeap (s1.heap.push (seqObj "list" vs.toArray 0)) s1.heap.objs.size vs out).get? b = some u := fun b u e => by
    have q := k1 b u e
    have hlt := Heap.lt_size q
    rw [sortedHeap_old (Nat.ne_of_lt hlt) (by rw [size_push']; exact Nat.lt_succ_of_lt hlt)]
    exact Heap.get?_push_of_some _ q
  have J : Inv X pins σ (upd H s1.heap.objs.size (.lst zs)) { s with heap := sortedHeap (s1.heap.push (seqObj "list" vs.toArray 0)) s1.heap.objs.size vs out, gens := s1.gens, drawn := s1.drawn, toks := s1.toks } :=
    I.call (ch := []) (Un.laid kp hz hn) (I.hok.laid kp hz ⟨v3, out.toList, c, v1, by rw [Array.toArray_toList]; exact hc2⟩) (by rw [g1]; exact I.bare) (fun _ z => nomatch z)
  refine wpAny_pure ⟨_, rfl, hQ _ zs _ hn v2 ?_⟩
  have e9 : ({ s1 with heap := sortedHeap (s1.heap.push (seqObj "list" vs.toArray 0)) s1.heap.objs.size vs out } : Shared) = { s with heap := sortedHeap (s1.heap.push (seqObj "list" vs.toArray 0)) s1.heap.objs.size vs out, gens := s1.gens, drawn := s1.drawn, toks := s1.toks } := by
    cases s1; cases s; cases o1; rfl
  show Inv X pins σ _ { s1 with heap := sortedHeap (s1.heap.push (seqObj "list" vs.toArray 0)) s1.heap.objs.size vs out }
  rw [e9]; exact J
end
end Ev

namespace Ev
open PySem PySem.Spec PyProof.Rows L2
theorem insS_perm (x : Str) : ∀ ys, (insS x ys).Perm (x :: ys)
  | [] => .refl _
  | y :: ys => by
    unfold insS
    split
    · exact ((insS_perm x ys).cons y).trans (.swap x y ys)
    · exact .refl _
theorem sortS_perm : ∀ xs, (sortS xs).Perm xs
  | [] => .refl _
  | x :: xs => (insS_perm x _).trans ((sortS_perm xs).cons x)
def LeS (x y : Str) : Prop := x.cps.toList ≤ y.cps.toList
theorem leS_trans {x y z : Str} (h : LeS x y) (h' : LeS y z) : LeS x z := List.le_trans h h'
theorem leS_anti {x y : Str} (h : LeS x y) (h' : LeS y x) : x = y := by
  have e := List.le_antisymm h h'
  cases x; cases y
  exact congrArg _ (Array.toList_inj.mp e)
theorem insS_up (x : Str) : ∀ ys : List Str, ys.Pairwise LeS → (insS x ys).Pairwise LeS
  | [], _ => by simp [insS]
  | y :: ys, h => by
    obtain ⟨h1, h2⟩ := List.pairwise_cons.mp h
    unfold insS
    split
    · rename_i hlt
      refine List.pairwise_cons.mpr ⟨fun z hz => ?_, insS_up x ys h2⟩
      rcases List.mem_cons.mp ((insS_perm x ys).mem_iff.mp hz) with rfl | hz
      · exact List.le_of_lt hlt
      · exact h1 z hz
    · rename_i hlt
      have hxy : LeS x y := List.not_lt.mp hlt
      refine List.pairwise_cons.mpr ⟨fun z hz => ?_, h⟩
      rcases List.mem_cons.mp hz with rfl | hz
      · exact hxy
      · exact leS_trans hxy (h1 z hz)
theorem sortS_up : ∀ xs : List Str, (sortS xs).Pairwise LeS
  | [] => .nil
  | x :: xs => insS_up x _ (sortS_up xs)
theorem rising_up : ∀ (p : Str) (xs : List Str), risingS p xs = true → (p :: xs).Pairwise LeS
  | p, [], _ => by simp
  | p, x :: r, h => by
    simp only [risingS, Bool.and_eq_true, Bool.not_eq_true'] at h
    have h2 := rising_up x r h.2
    have hpx : LeS p x := List.not_lt.mp (fun z => by
      have := h.1
      rw [← PyProof.Rows.gt_meets p x] at this
      exact absurd z (of_decide_eq_false this))
    refine List.pairwise_cons.mpr ⟨fun z hz => ?_, h2⟩
    rcases List.mem_cons.mp hz with rfl | hz
    · exact hpx
    · exact leS_trans hpx ((List.pairwise_cons.mp h2).1 z hz)
theorem sortedS_eq {ys ks : List Str} (hp : ys.Perm ks) (h : sortedS ys = true) : ys = sortS ks := by
  have up : ys.Pairwise LeS := by
    cases ys with
    | nil => exact .nil
    | cons y r => exact rising_up y r h
  exact List.Perm.eq_of_pairwise (fun _ _ _ _ h h' => leS_anti h h') up (sortS_up ks) (hp.trans (sortS_perm ks).symm)
theorem strs_vals {K : PySem.W.Frag} {F : Hp} {sa : List Addr} : ∀ {ds : List D} {xs : List Str} {ss : List Str}, Dats K F sa (xs.map V.str) ds → asStrs ds = some ss → xs = ss
  | [], [], ss, _, e => by
    cases ss with
    | nil => rfl
    | cons _ _ => simp [asStrs] at e
  | d :: ds, x :: xs, ss, h, e => by
    cases h with
    | cons q r =>
      cases q
      simp only [asStrs, Option.map_eq_some_iff] at e
      obtain ⟨ss', e, rfl⟩ := e
      rw [strs_vals r e]
theorem dats_strs {K : PySem.W.Frag} {F : Hp} {sa : List Addr} : ∀ ss : List Str, Dats K F sa (ss.map V.str) (ss.map D.str)
  | [] => .nil
  | s :: ss => .cons (.str s) (dats_strs ss)
def dName : P → Option (String × Bool)
  | .dlen => some ("len", false)
  | .dlist => some ("list", true)
  | .dsorted | .sorted => some ("sorted", false)
  | _ => none
def rDp (X : Cx) (p : P) (f : Bool) : List V → Hp → VK → Prop := fun xs H Q => ∃ (base : Nat) (F : Hp) (sa : List Addr) (st : Store) (v : V) (d0 d d' : D) (st' : Store), xs = [v] ∧ Wd X.K base F sa st H ∧ RdsR X.K F sa H v d0 ∧ primD p [d0] = some d ∧ new f d st = some (d', st') ∧ Out X.K base F sa st H st' d' Q
theorem rdsD {K : PySem.W.Frag} {F H : Hp} {sa : List Addr} {v : V} {t : Bool} {ks vs : List D} (r : RdsR K F sa H v (.dct t ks vs)) : Rds K F sa H v (.dct t ks vs) := by
  cases r with
  | dct a b c d => exact .dct a b c d
section
variable {X : Cx}
theorem cr_dlen {f : Bool} : CallR X (.builtin "len") (rDp X .dlen f) := by
  intro pins s σ H xs us Q I rv ⟨base, F, sa, st, v, d0, d, d', st', e, W, r, hp, hn, O⟩
  subst e
  obtain ⟨u, rfl, ru⟩ := vals1 rv
  cases d0 <;> simp only [primD] at hp <;> try (cases hp; done)
  rename_i t ks vs
  cases hp
  obtain ⟨rfl, rfl⟩ := new_sc hn (fun _ z => nomatch z) (fun _ _ _ z => nomatch z)
  cases t with
  | true =>
    obtain ⟨a, xs, ys, rfl, hrd, N⟩ := rd_N I W (rdsD r)
    cases ru
    exact len_dictN I N fun t s' I' => ⟨.int ks.length, H, I', ⟨t, rfl⟩, O.same W (.int _)⟩
  | false =>
    cases r with
    | dct hr du qk qv =>
      cases du with
      | k xs nd =>
        cases ru
        refine d_len I hr fun t s' I' => ⟨.int ks.length, H, I', ⟨t, ?_⟩, O.same W (.int _)⟩
        have := qk.length
        simp only [List.length_map] at this ⊢
        rw [this]
theorem cr_dlist (hc : X.calm = true) {f : Bool} : CallR X (.type "list") (rDp X .dlist f) := by
  intro pins s σ H xs us Q I rv ⟨base, F, sa, st, v, d0, d, d', st', e, W, r, hp, hn, O⟩
  subst e
  obtain ⟨u, rfl, ru⟩ := vals1 rv
  cases d0 <;> simp only [primD] at hp <;> try (cases hp; done)
  rename_i t ks vs
  cases t <;> simp only [Bool.false_eq_true, if_false, if_true] at hp <;> cases hp
  obtain ⟨a, xs, ys, rfl, hrd, N⟩ := rd_N I W (rdsD r)
  cases ru
  exact list_dictN I N (I.ok.hd hc) fun p s' hp I' => ⟨.ref p, _, I', rfl, O.newlst hn W N.kd p hp⟩
theorem cr_dsorted (hc : X.calm = true) {f : Bool} : CallR X (.builtin "sorted") (rDp X .dsorted f) := by
  intro pins s σ H xs us Q I rv ⟨base, F, sa, st, v, d0, d, d', st', e, W, r, hp, hn, O⟩
  subst e
  cases d0 <;> simp only [primD] at hp <;> try (cases hp; done)
  rename_i t ks vs
  cases t with
  | true =>
    simp only [if_true, sortR, Option.map_eq_some_iff, Option.bind_eq_some_iff, Option.ite_none_right_eq_some, Option.some.injEq] at hp
    obtain ⟨ds, ⟨rs, hr, ok, rfl⟩, rfl⟩ := hp
    obtain ⟨u, rfl, ru⟩ := vals1 rv
    obtain ⟨a, xs, ys, rfl, hrd, N⟩ := rd_N I W (rdsD r)
    cases ru
    exact sorted_dictN I W N (I.ok.hd hc) hr ok fun p zs s' hp q I' => ⟨.ref p, _, I', rfl, O.newlst hn W q p hp⟩
  | false =>
    simp only [Bool.false_eq_true, if_false, sortT, Option.map_eq_some_iff, Option.bind_eq_some_iff, Option.ite_none_right_eq_some, Option.some.injEq] at hp
    obtain ⟨ds, ⟨ss, hss, h64, rfl⟩, rfl⟩ := hp
    cases r with
    | dct hr du qk qv =>
      cases du with
      | k xs nd =>
        have e1 : xs.map (·.1) = ss := strs_vals (by rw [List.map_map]; exact qk) hss
        refine call_sortedD hc pins s σ H _ us Q I rv ⟨_, _, ss, rfl, hr, ?_, h64, fun ys p hpm hso hp => ?_⟩
        · rw [List.map_map, ← e1, List.map_map]; rfl
        · rw [sortedS_eq hpm hso]
          exact O.newlst hn W (dats_strs _) p hp
theorem cr_sorted {f : Bool} : CallR X (.builtin "sorted") (rDp X .sorted f) := by
  intro pins s σ H xs us Q I rv ⟨base, F, sa, st, v, d0, d, d', st', e, W, r, hp, hn, O⟩
  subst e
  obtain ⟨u, rfl, ru⟩ := vals1 rv
  cases d0 <;> simp only [primD] at hp <;> try (cases hp; done)
  rename_i xs
  simp only [sortR, Option.map_eq_some_iff, Option.bind_eq_some_iff, Option.ite_none_right_eq_some, Option.some.injEq] at hp
  obtain ⟨ds, ⟨rs, hr, ok, rfl⟩, rfl⟩ := hp
  cases r with
  | lst hl q =>
    cases ru
    exact sorted_list I W hl q hr ok fun p zs s' hp q I' => ⟨.ref p, _, I', rfl, O.newlst hn W q p hp⟩
theorem dp_rule (hc : X.calm = true) {p : P} {n : String × Bool} {f : Bool} (h : dName p = some n) : CallR X (pVal n) (rDp X p f) := by
  cases p <;> simp only [dName, Option.some.injEq] at h <;> first | (cases h; done) | (subst h)
  · exact cr_sorted
  · exact cr_dlen
  · exact cr_dlist hc
  · exact cr_dsorted hc
end
section
variable {X : Cx} {c : Ctx} {Γ : Gam} {top : Bool} {N : List Str} {sc : Scope}
theorem prim_key {pr : P} {a : E} {f : Bool} {ρ : Env} {st st' : Store} {d : D} (e : evE c (if f then .primB pr [a] else .prim pr [a]) ρ st = some (d, st')) : ∃ d1 st1, evE c a ρ st = some (d1, st1) ∧ ∃ d', primD pr [rdR st1 d1] = some d' ∧ new f d' st1 = some (d, st') := by
  cases f with
  | false =>
    simp only [Bool.false_eq_true, if_false, evE, evEs, Option.bind_eq_some_iff, Option.map_eq_some_iff] at e
    obtain ⟨⟨ds, st1⟩, ⟨⟨d1, st2⟩, e1, ⟨d2, st3⟩, e2, e3⟩, d', e4, e5⟩ := e
    simp only [Option.some.injEq, Prod.mk.injEq] at e2
    obtain ⟨rfl, rfl⟩ := e2
    cases e3
    cases e5
    exact ⟨d1, _, e1, d, e4, by simp [new]⟩
  | true =>
    simp only [if_true, evE, evEs, Option.bind_eq_some_iff, Option.map_eq_some_iff] at e
    obtain ⟨⟨ds, st1⟩, ⟨⟨d1, st2⟩, e1, ⟨d2, st3⟩, e2, e3⟩, d', e4, e5⟩ := e
    simp only [Option.some.injEq, Prod.mk.injEq] at e2
    obtain ⟨rfl, rfl⟩ := e2
    cases e3
    exact ⟨d1, _, e1, d', e4, e5⟩
theorem se_dprim (G : Good Γ X top N sc c) {pr : P} {nm : String × Bool} (hn : dName pr = some nm) (hin : nm.1 ∈ bNames) (hv : bootBuiltins (Str.ofString nm.1) = some (pVal nm)) {f : Bool} {q : Expr} {a : E} {p pos : Pos}
    (h2 : glb sc (Str.ofString nm.1) = true) (h3 : plainName (Str.ofString nm.1) = true) (hs : notStar q = true) (h : PE X q (tEv X.K c a)) :
    PE X (.Call (.Name (Str.ofString nm.1) p) [q] [] pos) (tEv X.K c (if f then .primB pr [a] else .prim pr [a])) := by
  obtain ⟨n1, n2, n3⟩ := plainName_ok h3
  have key : ∀ σ H Q, tEv X.K c (if f then .primB pr [a] else .prim pr [a]) σ H Q → tCB (rDp X pr f) (tEvs X.K c [a]) σ H Q := fun σ H Q ⟨F, sa, st, ρ, d, st', W, R, e, O⟩ => by
    obtain ⟨d1, st1, e1, d', e2, e3⟩ := prim_key e
    refine ⟨F, sa, st, ρ, [d1], st1, W, R, by simp [evEs, e1], fun vs F1 sa1 H1 W1 E1 q1 => ?_⟩
    cases q1 with
    | cons q1 q2 =>
      cases q2
      exact ⟨_, _, _, _, _, _, _, _, _, rfl, W1, rdR_ok W1 q1, e2, e3, O.from E1⟩
  have hR := dp_rule (X := X) (f := f) G.calm hn
  have hm := G.bl nm.1 hin
  have ha : PA X [q] (tEvs X.K c [a]) := se_cons hs h se_nil
  obtain ⟨x, b⟩ := nm
  cases b with
  | true => exact (pe_callTy hR (glb_ok G.hsc h2) hm hv ha n3 n1 (star_cons hs) rfl).imp key
  | false => exact (pe_callB hR (glb_ok G.hsc h2) hm hv ha n3 n1 (star_cons hs) rfl).imp key
/-- a row's set, sorted -/
def rSS (X : Cx) : List V → Hp → VK → Prop := fun xs H Q => ∃ (F : Hp) (sa : List Addr) (a : Addr) (L : List (Addr × List Int)) (rs : List (List Int)), xs = [.ref a] ∧ Sub F H ∧ H a = some (SetTO X.prog X.w a L) ∧ (∀ p ∈ L, Dat X.K F sa (.ref p.1) (ofRow p.2)) ∧ (∀ x, x ∈ L.map (·.2) ↔ x ∈ rs) ∧ rowsOk rs = true ∧
  ∀ p ys, H p = none → Dats X.K F sa ys ((sortI (dedup rs)).map ofRow) → Q (.ref p) (upd H p (.lst ys))
theorem cr_ss (hc : X.calm = true) : CallR X (.builtin "sorted") (rSS X) := by
  intro pins s σ H xs us Q I rv ⟨F, sa, a, L, rs, e, hs, ha, hd, hm, ok, O⟩
  subst e
  obtain ⟨u, rfl, ru⟩ := vals1 rv
  cases ru
  exact sorted_setN hc I hs ha hd hm ok fun p ys s' hp q I' => ⟨.ref p, _, I', rfl, O p ys hp q⟩
theorem asInts_map : ∀ r : List Int, asInts (r.map .int) = some r
  | [] => rfl
  | i :: r => by simp [asInts, asInts_map r]
/-- rows as data: their tuples -/
theorem rows_tups {F : Hp} {sa : List Addr} {K : PySem.W.Frag} : ∀ {ds : List D} {vs : List V} {rs : List (List Int)}, Dats K F sa vs ds → rows ds = some rs → ∃ ks : List (Addr × List Int), vs = ks.map (fun p => V.ref p.1) ∧ ks.map (·.2) = rs ∧ ∀ p ∈ ks, Dat K F sa (.ref p.1) (ofRow p.2) ∧ SqT K F p.1 (p.2.map V.int)
  | [], vs, rs, q, h => by
    cases q
    simp only [rows, Option.some.injEq] at h
    subst h
    exact ⟨[], rfl, rfl, fun p hp => nomatch hp⟩
  | d :: ds, vs, rs, q, h => by
    cases q with
    | @cons v _ vs' _ q1 q2 =>
      simp only [rows, Option.bind_eq_some_iff, Option.map_eq_some_iff] at h
      obtain ⟨r, hr, rs', h2, rfl⟩ := h
      obtain ⟨ks, e1, e2, e3⟩ := rows_tups q2 h2
      cases d <;> simp only [rowOf] at hr <;> try (cases hr; done)
      rename_i xs
      have ex : xs = r.map .int := row_len hr
      subst ex
      cases q1 with
      | @tup a ws _ hq qs =>
        refine ⟨(a, r) :: ks, by simp [e1], by simp [e2], fun p hp => ?_⟩
        rcases List.mem_cons.mp hp with rfl | hp
        · refine ⟨.tup hq qs, ?_⟩
          have ew : ws = r.map V.int := ints_vals qs (asInts_map r)
          rw [← ew]; exact hq
        · exact e3 p hp
theorem se_sortset (G : Good Γ X top N sc c) (hu : X.A.units + 66 < cLine) {f : Bool} {q : Expr} {a : E} {p p2 pos pos2 : Pos} (h1 : glb sc (Str.ofString "sorted") = true) (h2 : glb sc (Str.ofString "set") = true) (hs : notStar q = true) (h : PE X q (tEv X.K c a)) :
    PE X (.Call (.Name (Str.ofString "sorted") p) [.Call (.Name (Str.ofString "set") p2) [q] [] pos2] [] pos) (tEv X.K c (if f then .primB .sortset [a] else .prim .sortset [a])) := by
  have h' : PE X (.Call (.Name (Str.ofString "set") p2) [q] [] pos2) (tCB (rSetOfT X.K X.prog X.w) (tEvs X.K c [a])) :=
    pe_callTy (cr_setOfT G.calm (by omega)) (glb_ok G.hsc h2) (G.bl "set" (by simp [bNames])) (by decide +kernel) (se_cons hs h se_nil) (by decide +kernel) (by decide +kernel) (star_cons hs) rfl
  refine (pe_callB (cr_ss G.calm) (glb_ok G.hsc h1) (G.bl "sorted" (by simp [bNames])) (by decide +kernel) (pa_cons h' pa_nil (star_cons rfl)) (by decide +kernel) (by decide +kernel) (star_cons rfl) rfl).imp fun σ H Q ⟨F, sa, st, ρ, d, st', W, R, e, O⟩ => ?_
  obtain ⟨d1, st1, e1, d', e2, e3⟩ := prim_key e
  refine ⟨F, sa, st, ρ, [d1], st1, W, R, by simp [evEs, e1], fun vs F1 sa1 H1 W1 E1 q1 => ?_⟩
  cases q1 with
  | @cons v _ _ _ q1 q2 =>
    cases q2
    have r1 := rdR_ok W1 q1
    generalize rdR st1 d1 = dd at e2 r1
    cases dd <;> simp only [primD] at e2 <;> try (cases e2; done)
    rename_i xs
    simp only [sortSetR, Option.map_eq_some_iff, Option.bind_eq_some_iff, Option.ite_none_right_eq_some, Option.some.injEq] at e2
    obtain ⟨ds, ⟨rs, hr, ok, rfl⟩, rfl⟩ := e2
    cases r1 with
    | @lst l ws _ hl qs =>
      obtain ⟨ks, ek, ek2, ek3⟩ := rows_tups qs hr
      subst ek
      have hlen : ks.length < 64 := by
        have h1 := (rowsOk_ne ok).1
        rw [← ek2, List.length_map] at h1; exact h1
      refine ⟨l, ks, rfl, hl, fun p hp => sqt_sub W1.sub (ek3 p hp).2, hlen, fun b L hb g1 g2 => ?_⟩
      refine ⟨F1, sa1, b, L, rs, rfl, W1.sub.trans (sub_upd hb), upd_same, fun p hp => (ek3 p (g1 p hp)).1, fun x => ?_, ok, fun p' ys hp' q' => ?_⟩
      · rw [← ek2]
        refine ⟨fun hx => ?_, fun hx => ?_⟩
        · obtain ⟨p, hp, rfl⟩ := List.mem_map.mp hx
          exact List.mem_map_of_mem (g1 p hp)
        · obtain ⟨p, hp, rfl⟩ := List.mem_map.mp hx
          exact g2 p hp
      · exact ((O.from E1).from (.junk hb)).newlst e3 (W1.junk hb) q' p' hp'
end
end Ev

namespace Ev
open PySem PySem.Spec PyProof.Rows L2
section
variable {X : Cx} {c : Ctx} {Γ : Gam} {top : Bool} {N : List Str} {sc : Scope}
theorem dats_rg {K : PySem.W.Frag} {F : Hp} {sa : List Addr} (i : Int) : ∀ l : List Nat, Dats K F sa (l.map fun (k : Nat) => V.int (i + k)) (l.map fun (k : Nat) => D.int (i + k))
  | [] => .nil
  | k :: l => .cons (.int _) (dats_rg i l)
theorem se_lrng1 (G : Good Γ X top N sc c) {q : Expr} {a : E} {p p' pos pos' : Pos} (hg : glb sc (Str.ofString "list") = true) (hg2 : glb sc (Str.ofString "range") = true) (hs : notStar q = true) (h : PE X q (tEv X.K c a)) :
    PE X (.Call (.Name (Str.ofString "list") p) [.Call (.Name (Str.ofString "range") p') [q] [] pos'] [] pos) (tEv X.K c (.lrng1 a)) := by
  refine (pe_listRg G.calm (glb_ok G.hsc hg) (G.bl "list" (by simp [bNames])) (prg_1 (glb_ok G.hsc hg2) (G.bl "range" (by simp [bNames])) h (star_cons hs))).imp fun σ H Q ⟨F, sa, st, ρ, d, st', W, R, e, O⟩ => ?_
  simp only [evE, Option.bind_eq_some_iff] at e
  obtain ⟨⟨d1, st1⟩, e1, e2⟩ := e
  cases d1 <;> simp only at e2 <;> try (cases e2; done)
  rename_i j
  simp only [Option.ite_none_right_eq_some, Option.map_eq_some_iff, rngD, Option.some.injEq, Prod.mk.injEq] at e2
  obtain ⟨hj, ds, ⟨⟨b1, b2, b3, b4⟩, rfl⟩, rfl, rfl⟩ := e2
  refine ⟨F, sa, st, ρ, .int j, st1, W, R, e1, fun v F' sa' H' W' E' q => ?_⟩
  cases q
  exact ⟨j, rfl, ⟨by omega, by omega, by omega, by omega, by omega⟩, (O.from E').lst W' (dats_rg 0 _)⟩
theorem se_lrng2 (G : Good Γ X top N sc c) {q r : Expr} {a b : E} {p p' pos pos' : Pos} (hg : glb sc (Str.ofString "list") = true) (hg2 : glb sc (Str.ofString "range") = true) (hs : notStar q = true) (hs2 : notStar r = true) (h : PE X q (tEv X.K c a)) (h2 : PE X r (tEv X.K c b)) :
    PE X (.Call (.Name (Str.ofString "list") p) [.Call (.Name (Str.ofString "range") p') [q, r] [] pos'] [] pos) (tEv X.K c (.lrng2 a b)) := by
  have s1 : starEach [r] X.env = (false, eval r X.env) :: starEach [] X.env := star_cons hs2
  refine (pe_listRg G.calm (glb_ok G.hsc hg) (G.bl "list" (by simp [bNames])) (prg_2 (glb_ok G.hsc hg2) (G.bl "range" (by simp [bNames])) h h2 (star_cons hs) s1 (star_no (by simp [hs2])))).imp fun σ H Q ⟨F, sa, st, ρ, d, st', W, R, e, O⟩ => ?_
  simp only [evE, Option.bind_eq_some_iff] at e
  obtain ⟨⟨d1, st1⟩, e1, ⟨d2, st2⟩, e2, e3⟩ := e
  cases d1 <;> cases d2 <;> simp only at e3 <;> try (cases e3; done)
  rename_i i j
  simp only [Option.ite_none_right_eq_some, Option.map_eq_some_iff, rngD, Option.some.injEq, Prod.mk.injEq] at e3
  obtain ⟨hj, ds, ⟨⟨b1, b2, b3, b4⟩, rfl⟩, rfl, rfl⟩ := e3
  refine ⟨F, sa, st, ρ, .int i, st1, W, R, e1, fun v F' sa' H' W' E' q => ⟨F', sa', st1, ρ, .int j, st2, W', R.ext E', e2, fun v2 F2 sa2 H2 W2 E2 q2 => ?_⟩⟩
  cases q
  cases q2
  exact ⟨i, j, rfl, rfl, ⟨by omega, by omega, by omega, by omega, by omega⟩, (O.from (E'.trans E2)).lst W2 (dats_rg i _)⟩
end
mutual
def D.same : D → D → Bool
  | .non, .non => true
  | .bl a, .bl b => a == b
  | .int a, .int b => a == b
  | .str a, .str b => a == b
  | .tup a, .tup b => D.sames a b
  | _, _ => false
def D.sames : List D → List D → Bool
  | [], [] => true
  | a :: as, b :: bs => D.same a b && D.sames as bs
  | _, _ => false
end
mutual
theorem same_eq : ∀ (a b : D), D.same a b = true → a = b
  | .non, b, h => by cases b <;> simp [D.same] at h <;> rfl
  | .bl a, b, h => by cases b <;> simp [D.same] at h; rw [h]
  | .int a, b, h => by cases b <;> simp [D.same] at h; rw [h]
  | .str a, b, h => by cases b <;> simp [D.same] at h; rw [h]
  | .tup a, b, h => by
    cases b <;> simp [D.same] at h
    rw [sames_eq _ _ h]
  | .lst _, b, h | .dct _ _ _, b, h | .box _, b, h | .ro _, b, h => by simp [D.same] at h
theorem sames_eq : ∀ (a b : List D), D.sames a b = true → a = b
  | [], b, h => by cases b <;> simp [D.sames] at h <;> rfl
  | a :: as, b, h => by
    cases b with
    | nil => simp [D.sames] at h
    | cons b bs =>
      simp only [D.sames, Bool.and_eq_true] at h
      rw [same_eq _ _ h.1, sames_eq _ _ h.2]
end
def all2 {α β : Type} (f : α → β → Bool) : List α → List β → Bool
  | [], [] => true
  | a :: as, b :: bs => f a b && all2 f as bs
  | _, _ => false
theorem all2_len {α β : Type} {f : α → β → Bool} : ∀ {as : List α} {bs : List β}, all2 f as bs = true → as.length = bs.length
  | [], [], _ => rfl
  | _ :: _, _ :: _, h => by simp only [all2, Bool.and_eq_true] at h; simp [all2_len h.2]
  | [], _ :: _, h => by simp [all2] at h
  | _ :: _, [], h => by simp [all2] at h

def isIf : Expr → Bool
  | .IfExp .. => true
  | _ => false
def isBo : Expr → Bool
  | .BoolOp .. => true
  | _ => false
def isSet : Expr → Bool
  | .Set .. => true
  | _ => false
def isComp : Expr → Bool
  | .ListComp .. | .SetComp .. | .DictComp .. => true
  | _ => false
theorem marks_no {o : CmpOp} {q : Expr} (h : isSet q = false) : behindInMarks o q = false := by cases q <;> first | rfl | simp [isSet] at h
theorem marks_no2 {o o' : CmpOp} {q r : Expr} (h : isSet r = false) : lastMarks [o, o'] [q, r] = false := marks_no (o := o') h
theorem folded_no {q : Expr} {env : PySem.Env} (h : isSet q = false) : ∀ x, foldedSetIterable q env x = pure x := fun x => by cases q <;> first | rfl | simp [isSet] at h
theorem swaps_no {q : Expr} {t : Option Expr} {l : Nat} {env : PySem.Env} (h : isComp q = false) : swapsWith q t l env = pure false := by cases q <;> first | rfl | simp [isComp] at h
theorem plain_ix {q : Expr} (h : notSlice q = true) : PlainIx q := fun o i => by cases q <;> first | rfl | simp [notSlice] at h

structure SE (X : Cx) (c : Ctx) (p : Expr) (e : E) : Prop where
  pe : PE X p (tEv X.K c e)
  pt : isIf p = false → PT X p (tEvT X.K c e)
  pw : isBo p = true → PW X p (tEvT X.K c e)
section
variable {X : Cx} {c : Ctx} {Γ : Gam} {top : Bool} {N : List Str} {sc : Scope}
/-- a form whose test is its value's truth -/
theorem SE.val {p : Expr} {e : E} (h : PE X p (tEv X.K c e)) (hb : isBo p = false) (ht : isIf p = false → ∀ whole, isTrue p X.env whole = (do let v ← whole; standAt p.pos; holding [v] (truthy v))) : SE X c p e :=
  ⟨h, fun hi => st_val h (ht hi), fun z => by rw [hb] at z; cases z⟩
abbrev Fch := Expr → E → Bool
theorem pa_all {f : Fch} (ih : ∀ p e, f p e = true → SE X c p e) : ∀ {ps : List Expr} {es : List E}, ps.all notStar = true → all2 f ps es = true → PA X ps (tEvs X.K c es)
  | [], [], _, _ => se_nil
  | p :: ps, e :: es, hs, h => by
    simp only [all2, Bool.and_eq_true] at h
    simp only [List.all_cons, Bool.and_eq_true] at hs
    exact se_cons hs.1 (ih p e h.1).pe (pa_all ih hs.2 h.2)
  | [], _ :: _, _, h => by simp [all2] at h
  | _ :: _, [], _, h => by simp [all2] at h
theorem evEs_len : ∀ {es : List E} {ρ : Env} {st : Store} {ds : List D} {st' : Store}, evEs c es ρ st = some (ds, st') → ds.length = es.length
  | [], ρ, st, ds, st', h => by
    simp only [evEs, Option.some.injEq, Prod.mk.injEq] at h
    rw [← h.1]; rfl
  | e :: es, ρ, st, ds, st', h => by
    simp only [evEs, Option.bind_eq_some_iff, Option.map_eq_some_iff] at h
    obtain ⟨⟨d, st1⟩, _, ⟨ds', st2⟩, e2, e3⟩ := h
    cases e3
    simp [evEs_len e2]

def tgtOk (top : Bool) (sc : Scope) (x : Str) : Bool := match sc.names.lookup x with
  | some .local => true
  | some .cell => top
  | _ => false
def chkT (top : Bool) (N : List Str) (sc : Scope) : Nat → Expr → T → Bool
  | 0, _, _ => false
  | n + 1, p, t => match p, t with
    | .Name x _, .name i => decide (N[i]? = some x) && tgtOk top sc x
    | .Tuple ps _ _, .tup ts => ps.all notStar && all2 (chkT top N sc n) ps ts
    | _, _ => false
theorem asg_cons {e : Expr} {es : List Expr} {env : PySem.Env} (h : notStar e = true) : assignEach (e :: es) env = (false, assign e env) :: assignEach es env := by
  cases e <;> first | rfl | simp [notStar] at h
theorem asg_idx {env : PySem.Env} : ∀ {es : List Expr}, es.all notStar = true → (assignEach es env).findIdx? (·.1) = none ∧ (assignEach es env).length = es.length
  | [], _ => ⟨rfl, rfl⟩
  | e :: es, h => by
    simp only [List.all_cons, Bool.and_eq_true] at h
    obtain ⟨h1, h2⟩ := asg_idx (env := env) h.2
    rw [asg_cons h.1]
    refine ⟨?_, by simp [h2]⟩
    rw [List.findIdx?_cons]
    simp [h1]
theorem pgs_all (hl : ∀ p t, (p, t) ∈ ([] : List (Expr × T)) → True) {f : Expr → T → Bool} (ih : ∀ p t, f p t = true → PG X p (gOf X.K t)) : ∀ {ps : List Expr} {ts : List T}, ps.all notStar = true → all2 f ps ts = true → PGs X ps (gsOf X.K ts)
  | [], [], _, _ => pgs_nil
  | p :: ps, t :: ts, hs, h => by
    simp only [all2, Bool.and_eq_true] at h
    simp only [List.all_cons, Bool.and_eq_true] at hs
    exact pgs_cons (ih p t h.1) (pgs_all hl ih hs.2 h.2) (by rw [asg_cons hs.1]; rfl)
  | [], _ :: _, _, h => by simp [all2] at h
  | _ :: _, [], _, h => by simp [all2] at h
theorem sndT (G : Good Γ X top N sc c) : ∀ (n : Nat) (p : Expr) (t : T), chkT top N sc n p t = true → PG X p (gOf X.K t)
  | 0, _, _, h => by simp [chkT] at h
  | n + 1, p, t, h => by
    unfold chkT at h
    split at h
    · rename_i x pos i
      simp only [Bool.and_eq_true, decide_eq_true_eq] at h
      obtain ⟨h1, h2⟩ := h
      unfold tgtOk at h2
      split at h2
      · rename_i hl
        exact pg_name G.nd (by rw [G.hN]; exact h1) (.inl (by rw [G.hsc]; exact hl)) (.inr (by rw [G.hsc]; exact hl))
      · rename_i hl
        exact pg_name G.nd (by rw [G.hN]; exact h1) (.inr (by rw [G.hsc]; exact hl)) (.inl (G.fn h2 x))
      · cases h2
    · rename_i ps k pos ts
      simp only [Bool.and_eq_true] at h
      obtain ⟨i1, i2⟩ := asg_idx (env := X.env) h.1
      exact pg_tup G.calm (pgs_all (fun _ _ _ => trivial) (sndT G n) h.1 h.2) (by rw [i2, all2_len h.2]) i1
    · cases h

theorem pInfo {p : P} {nm : String × Bool} (h : pName p = some nm) : nm.1 ∈ bNames ∧ bootBuiltins (Str.ofString nm.1) = some (pVal nm) ∧ plainName (Str.ofString nm.1) = true := by
  cases p <;> simp only [pName, Option.some.injEq] at h <;> first | (cases h; done) | (subst h; exact ⟨by decide +kernel, by decide +kernel, by decide +kernel⟩)
def tyOf : Expr → Option Ty
  | .Name x _ => if x == Str.ofString "int" then some .int else if x == Str.ofString "str" then some .str else if x == Str.ofString "bool" then some .bool else if x == Str.ofString "list" then some .list else if x == Str.ofString "tuple" then some .tuple else none
  | _ => none
theorem tyOf_ok {p : Expr} {T : Ty} (h : tyOf p = some T) : ∃ pos, p = .Name (Str.ofString (tyStr T)) pos := by
  unfold tyOf at h
  split at h
  · rename_i x pos
    refine ⟨pos, ?_⟩
    split at h
    · cases h; rename_i z; rw [eq_of_beq z]; rfl
    · split at h
      · cases h; rename_i z; rw [eq_of_beq z]; rfl
      · split at h
        · cases h; rename_i z; rw [eq_of_beq z]; rfl
        · split at h
          · cases h; rename_i z; rw [eq_of_beq z]; rfl
          · split at h
            · cases h; rename_i z; rw [eq_of_beq z]; rfl
            · cases h
  · cases h
/-- a built-in's call -/
def chkP (sc : Scope) (f : Fch) (x : Str) (args : List Expr) (p : P) (es : List E) : Bool := match pName p with
  | some nm => (match args with
    | q :: ps => x == Str.ofString nm.1 && glb sc x && (q :: ps).all notStar && all2 f (q :: ps) es
    | _ => false)
  | none => (match dName p with
    | some nm => (match args, es with
      | [q], [a] => x == Str.ofString nm.1 && glb sc x && notStar q && f q a
      | _, _ => false)
    | none => (match p, args, es with
      | .sortset, [.Call (.Name y _) [q] [] _], [a] => x == Str.ofString "sorted" && glb sc x && y == Str.ofString "set" && glb sc y && notStar q && f q a
      | _, _, _ => false))
theorem dInfo {p : P} {nm : String × Bool} (h : dName p = some nm) : nm.1 ∈ bNames ∧ bootBuiltins (Str.ofString nm.1) = some (pVal nm) ∧ plainName (Str.ofString nm.1) = true := by
  cases p <;> simp only [dName, Option.some.injEq] at h <;> first | (cases h; done) | (subst h; exact ⟨by decide +kernel, by decide +kernel, by decide +kernel⟩)
theorem sndP (G : Good Γ X top N sc c) {f : Fch} (ih : ∀ p e, f p e = true → SE X c p e) {x : Str} {args : List Expr} {pos pos2 : Pos} {p : P} {es : List E} (fl : Bool) (h : chkP sc f x args p es = true) : PE X (.Call (.Name x pos2) args [] pos) (tEv X.K c (if fl then .primB p es else .prim p es)) := by
  unfold chkP at h
  split at h
  · rename_i nm hn
    split at h <;> try (cases h; done)
    simp only [Bool.and_eq_true] at h
    obtain ⟨⟨⟨h1, h2⟩, h3⟩, h4⟩ := h
    have e1 := eq_of_beq h1
    subst e1
    obtain ⟨b1, b2, b3⟩ := pInfo hn
    exact se_prim G hn b1 b2 h2 b3 (by simpa using h3) (pa_all ih (by simpa using h3) h4)
  · split at h
    · rename_i nm hn
      split at h <;> try (cases h; done)
      simp only [Bool.and_eq_true] at h
      obtain ⟨⟨⟨h1, h2⟩, h3⟩, h4⟩ := h
      have e1 := eq_of_beq h1
      subst e1
      obtain ⟨b1, b2, b3⟩ := dInfo hn
      exact se_dprim G hn b1 b2 h2 b3 h3 (ih _ _ h4).pe
    · split at h <;> try (cases h; done)
      simp only [Bool.and_eq_true] at h
      obtain ⟨⟨⟨⟨⟨h1, h2⟩, h3⟩, h4⟩, h5⟩, h6⟩ := h
      have e1 := eq_of_beq h1
      have e2 := eq_of_beq h3
      subst e1 e2
      exact se_sortset G (by have := G.units; omega) h2 h4 h5 (ih _ _ h6).pe
def chkCall (Γ : Gam) (sc : Scope) (f : Fch) (fn : Expr) (args : List Expr) (pos : Pos) (e : E) : Bool := match fn with
  | .Name x _ => (match e with
    | .call g es => glb sc x && plainName x && args.all notStar && all2 f args es && Γ.defs.any fun q => q.1 == x && (q.2.1 == g && q.2.2 == args.length)
    | .prim (.isin tys) [a] => x == Str.ofString "isinstance" && glb sc x && (match args with
      | [q, r] => notStar q && f q a && (match tys with
        | [T] => (match tyOf r with
          | some T' => decide (T' = T) && glb sc (Str.ofString (tyStr T))
          | none => false)
        | _ => (match r with
          | .Tuple ps _ _ => decide (tys.length ≤ 100) && all2 (fun p T => decide (tyOf p = some T)) ps tys && tys.all fun T => glb sc (Str.ofString (tyStr T))
          | _ => false))
      | _ => false)
    | .prim p es => chkP sc f x args p es
    | .primB p es => chkP sc f x args p es
    | .lrng1 a => x == Str.ofString "list" && glb sc x && (match args with
      | [.Call (.Name y _) [q] [] _] => y == Str.ofString "range" && glb sc y && notStar q && f q a
      | _ => false)
    | .lrng2 a b => x == Str.ofString "list" && glb sc x && (match args with
      | [.Call (.Name y _) [q, r] [] _] => y == Str.ofString "range" && glb sc y && notStar q && notStar r && f q a && f r b
      | _ => false)
    | _ => false)
  | .Attribute o m ap => (match e with
    | .append a b => m == Str.ofString "append" && plainBase o && (ap.endLine == pos.line) && f o a && (match args with
      | [q] => notStar q && f q b
      | _ => false)
    | .get1 a b => m == Str.ofString "get" && plainBase o && (ap.endLine == pos.line) && f o a && (match args with
      | [q] => notStar q && f q b
      | _ => false)
    | .get2 a b d => m == Str.ofString "get" && plainBase o && (ap.endLine == pos.line) && f o a && (match args with
      | [q, r] => notStar q && notStar r && f q b && f r d
      | _ => false)
    | .pop a => m == Str.ofString "pop" && plainBase o && (ap.endLine == pos.line) && f o a && args.isEmpty
    | _ => false)
  | _ => false
theorem paired_tys : ∀ {ps : List Expr} {tys : List Ty}, all2 (fun p T => decide (tyOf p = some T)) ps tys = true → Paired (fun p T => ∃ pos, p = .Name (Str.ofString (tyStr T)) pos) ps tys
  | [], [], _ => .nil
  | p :: ps, T :: tys, h => by
    simp only [all2, Bool.and_eq_true, decide_eq_true_eq] at h
    exact .cons (tyOf_ok h.1) (paired_tys h.2)
  | [], _ :: _, h => by simp [all2] at h
  | _ :: _, [], h => by simp [all2] at h
theorem sndCall (G : Good Γ X top N sc c) {f : Fch} (ih : ∀ p e, f p e = true → SE X c p e) {fn : Expr} {args : List Expr} {pos : Pos} {e : E} (h : chkCall Γ sc f fn args pos e = true) : PE X (.Call fn args [] pos) (tEv X.K c e) := by
  have hu : X.A.units + 66 < cLine := G.units
  unfold chkCall at h
  split at h
  · rename_i x p
    split at h
    · rename_i g es
      simp only [Bool.and_eq_true] at h
      obtain ⟨⟨⟨⟨h1, h2⟩, h3⟩, h4⟩, h5⟩ := h
      rw [List.any_eq_true] at h5
      obtain ⟨⟨x', g', n'⟩, hm, h6⟩ := h5
      simp only [Bool.and_eq_true] at h6
      have e1 := eq_of_beq h6.1
      have e2 := eq_of_beq h6.2.1
      have e3 := eq_of_beq h6.2.2
      subst e1 e2 e3
      exact se_call G hm h1 h2 h3 rfl (pa_all ih h3 h4) fun ρ st ds st' he => by rw [evEs_len he, all2_len h4]
    · rename_i tys a
      simp only [Bool.and_eq_true] at h
      obtain ⟨⟨h1, h2⟩, h3⟩ := h
      have e1 := eq_of_beq h1
      subst e1
      split at h3 <;> try (cases h3; done)
      rename_i q r
      simp only [Bool.and_eq_true] at h3
      obtain ⟨⟨h4, h5⟩, h6⟩ := h3
      split at h6
      · rename_i T
        split at h6 <;> try (cases h6; done)
        rename_i T' hT
        simp only [Bool.and_eq_true, decide_eq_true_eq] at h6
        obtain ⟨e2, h7⟩ := h6
        subst e2
        obtain ⟨pos', rfl⟩ := tyOf_ok hT
        exact se_isi G h2 h7 h4 (ih _ _ h5).pe
      · split at h6 <;> try (cases h6; done)
        simp only [Bool.and_eq_true, decide_eq_true_eq] at h6
        obtain ⟨⟨h7, h8⟩, h9⟩ := h6
        exact se_isiT G h2 (fun T hT => List.all_eq_true.mp h9 T hT) (paired_tys h8) h7 h4 (ih _ _ h5).pe
    · exact sndP G ih false h
    · exact sndP G ih true h
    · simp only [Bool.and_eq_true] at h
      obtain ⟨⟨h1, h2⟩, h3⟩ := h
      have e1 := eq_of_beq h1
      subst e1
      split at h3 <;> try (cases h3; done)
      simp only [Bool.and_eq_true] at h3
      obtain ⟨⟨⟨h4, h5⟩, h6⟩, h7⟩ := h3
      have e2 := eq_of_beq h4
      subst e2
      exact se_lrng1 G h2 h5 h6 (ih _ _ h7).pe
    · simp only [Bool.and_eq_true] at h
      obtain ⟨⟨h1, h2⟩, h3⟩ := h
      have e1 := eq_of_beq h1
      subst e1
      split at h3 <;> try (cases h3; done)
      simp only [Bool.and_eq_true] at h3
      obtain ⟨⟨⟨⟨⟨h4, h5⟩, h6⟩, h6'⟩, h7⟩, h8⟩ := h3
      have e2 := eq_of_beq h4
      subst e2
      exact se_lrng2 G h2 h5 h6 h6' (ih _ _ h7).pe (ih _ _ h8).pe
    · cases h
  · rename_i o m ap
    split at h
    · rename_i a b
      simp only [Bool.and_eq_true] at h
      obtain ⟨⟨⟨⟨h1, h2⟩, h3⟩, h4⟩, h5⟩ := h
      have e1 := eq_of_beq h1
      subst e1
      split at h5 <;> try (cases h5; done)
      simp only [Bool.and_eq_true] at h5
      exact se_append h2 h5.1 h3 (ih _ _ h4).pe (ih _ _ h5.2).pe
    · rename_i a b
      simp only [Bool.and_eq_true] at h
      obtain ⟨⟨⟨⟨h1, h2⟩, h3⟩, h4⟩, h5⟩ := h
      have e1 := eq_of_beq h1
      subst e1
      split at h5 <;> try (cases h5; done)
      simp only [Bool.and_eq_true] at h5
      exact se_get1 hu h2 h5.1 h3 (ih _ _ h4).pe (ih _ _ h5.2).pe
    · rename_i a b d
      simp only [Bool.and_eq_true] at h
      obtain ⟨⟨⟨⟨h1, h2⟩, h3⟩, h4⟩, h5⟩ := h
      have e1 := eq_of_beq h1
      subst e1
      split at h5 <;> try (cases h5; done)
      simp only [Bool.and_eq_true] at h5
      exact se_get2 hu h2 h5.1.1.1 h5.1.1.2 h3 (ih _ _ h4).pe (ih _ _ h5.1.2).pe (ih _ _ h5.2).pe
    · simp only [Bool.and_eq_true, List.isEmpty_iff] at h
      obtain ⟨⟨⟨⟨h1, h2⟩, h3⟩, h4⟩, h5⟩ := h
      have e1 := eq_of_beq h1
      subst e1 h5
      exact se_pop h2 h3 (ih _ _ h4).pe
    · cases h
  · cases h
end
end Ev

namespace Ev
open PySem PySem.Spec PyProof.Rows L2
theorem Wd.freezeD {K : PySem.W.Frag} {base : Nat} {F H : Hp} {sa : List Addr} {st : Store} {o : HO} (W : Wd K base F sa st H) {n : Nat} {a : Addr} {b : B} (hn : sa[n]? = some a) (hb : st[n]? = some b) (hd : b ≠ .dead) (hl : base ≤ n) :
    Wd K base (upd F a o) sa (st.set n .dead) (upd H a o) ∧ Ext base F sa st H (upd F a o) sa (st.set n .dead) (upd H a o) := by
  have fa : F a = none := W.out n a _ hn hb hd
  have old : ∀ m, m ≤ base → OldOk m st → OldOk m (st.set n .dead) := fun m hm h i x hi e => by
    have z : n ≠ i := by omega
    rw [List.getElem?_set_ne z] at e; exact h i x hi e
  have ne : ∀ {i : Nat} {x : Addr}, n ≠ i → sa[i]? = some x → x ≠ a := fun {i x} z h1 q => z (nodup_at W.nd hn (by rw [← q]; exact h1))
  refine ⟨⟨fun x u e => ?_, by simp [W.len], W.nd, fun i x u h1 h2 h3 => ?_, fun x hx => ?_, fun i x u h1 h2 => ?_, old base (Nat.le_refl _) W.old, by simpa using W.le⟩, ⟨sub_upd fa, .refl _, fun x u e hx => ?_, fun _ h h' => absurd h h', old, fun x u e => ?_⟩⟩
  · by_cases z : x = a
    · subst z; rw [upd_same] at e ⊢; exact e
    · rw [upd_ne z] at e ⊢; exact W.sub x u e
  · by_cases z : n = i
    · subst z
      rw [List.getElem?_set] at h2
      split at h2
      · split at h2 <;> first | (cases h2; exact absurd rfl h3) | cases h2
      · rename_i q; exact absurd rfl q
    · rw [List.getElem?_set_ne z] at h2
      rw [upd_ne (ne z h1)]; exact W.out i x u h1 h2 h3
  · by_cases z : x = a
    · subst z; rw [upd_same]; exact fun q => nomatch q
    · rw [upd_ne z]; exact W.there x hx
  · by_cases z : n = i
    · subst z
      rw [List.getElem?_set] at h2
      split at h2
      · split at h2 <;> first | (cases h2; trivial) | cases h2
      · rename_i q; exact absurd rfl q
    · rw [List.getElem?_set_ne z] at h2
      exact (W.box i x u h1 h2).stable (sub_upd fa) (.refl _) (upd_ne (ne z h1))
  · have : x ≠ a := fun z => hx (by rw [z]; exact List.mem_of_getElem? hn)
    rw [upd_ne this]; exact e
  · by_cases z : x = a
    · rw [z]; exact .inr (.inr (List.mem_of_getElem? hn))
    · rw [upd_ne z] at e; exact .inl e
theorem DU.mut {a : Addr} {t : Bool} {u : HO} {kv vv : List V} {ks : List D} (h : DU a t u kv vv ks) : Mut (some u) := by cases h <;> trivial
theorem se_frz {X : Cx} {c : Ctx} {p : Expr} {e : E} (h : PE X p (tEv X.K c e)) : PE X p (tEv X.K c (.frz e)) := by
  refine ⟨fun pins s σ H Q I ⟨F, sa, st, ρ, d, st', W, R, he, O⟩ => ?_⟩
  simp only [evE, Option.bind_eq_some_iff] at he
  obtain ⟨⟨d1, st1⟩, e1, e2⟩ := he
  have h1 : tEv X.K c e σ H fun v H1 => ∃ F1 sa1, Wd X.K c.base F1 sa1 st1 H1 ∧ Ext c.base F sa st H F1 sa1 st1 H1 ∧ Dat X.K F1 sa1 v d1 := ⟨F, sa, st, ρ, d1, st1, W, R, e1, fun v1 F1 sa1 H1 W1 E1 q1 => ⟨F1, sa1, W1, E1, q1⟩⟩
  refine thn (h.run pins s σ H _ I h1) fun u s1 ⟨v, H1, I1, r1, F1, sa1, W1, E1, q1⟩ => ?_
  cases d1 <;> simp only [frzD] at e2 <;> try (cases e2; done)
  rename_i n
  split at e2 <;> try (cases e2; done)
  · rename_i ds hds
    simp only [Option.ite_none_right_eq_some, Option.some.injEq, Prod.mk.injEq] at e2
    obtain ⟨hl, rfl, rfl⟩ := e2
    obtain ⟨a, rfl, hn, vs, hH, r⟩ := box_at W1 q1 hds
    obtain ⟨W2, E2⟩ := W1.freeze hn hds hl hH
    have fa : F1 a = none := W1.out _ a _ hn hds (fun z => nomatch z)
    exact ⟨.ref a, H1, I1, r1, O _ _ _ _ W2 (E1.trans E2) (.lst upd_same (r.mono (sub_upd fa) (.refl _)))⟩
  · rename_i t ks vs hds
    simp only [Option.ite_none_right_eq_some, Option.some.injEq, Prod.mk.injEq] at e2
    obtain ⟨hl, rfl, rfl⟩ := e2
    obtain ⟨a, rfl, hn, u, kv, vv, hH, du, r, r2⟩ := box_at W1 q1 hds
    obtain ⟨od, I2⟩ := I1.lock hH du.mut
    obtain ⟨W2, E2⟩ := W1.freezeD (o := .frz od u) hn hds (fun z => nomatch z) hl
    have fa : F1 a = none := W1.out _ a _ hn hds (fun z => nomatch z)
    exact ⟨.ref a, _, I2, r1, O _ _ _ _ W2 (E1.trans E2) (.dct upd_same du (r.mono (sub_upd fa) (.refl _)) (r2.mono (sub_upd fa) (.refl _)))⟩
section
variable {X : Cx} {c : Ctx}
theorem se_rev {p : Expr} {k : Nat} {p1 p2 p3 pos : Pos} {a : E} (h : PE X p (tEv X.K c a)) : PE X (.Subscript p (.Slice none none (some (.UnaryOp .USub (.Constant (.int 1) k p1) p2)) p3) pos) (tEv X.K c (.rev a)) := by
  refine (pe_revA h).imp fun σ H Q ⟨F, sa, st, ρ, d, st', W, R, e, O⟩ => ?_
  simp only [evE, Option.bind_eq_some_iff] at e
  obtain ⟨⟨d1, st1⟩, e1, e2⟩ := e
  refine ⟨F, sa, st, ρ, d1, st1, W, R, e1, fun v F' sa' H' W' E' q => ?_⟩
  have r := rd_ok W' q
  generalize rd st1 d1 = dd at e2 r
  cases dd <;> try (cases e2; done)
  · simp only [Option.some.injEq, Prod.mk.injEq] at e2
    obtain ⟨rfl, rfl⟩ := e2
    cases r with
    | tup hh rr => exact ⟨_, _, rfl, .inr ⟨sqt_sub W'.sub hh, (O.from E').tup W' rr.reverse⟩⟩
  · simp only [Option.some.injEq, Prod.mk.injEq] at e2
    obtain ⟨rfl, rfl⟩ := e2
    cases r with
    | lst hh rr => exact ⟨_, _, rfl, .inl ⟨.of hh, (O.from E').lst W' rr.reverse⟩⟩
end
def chkC (Γ : Gam) (N : List Str) (sc : Scope) (p : Expr) (e : E) : Bool := match p, e with
  | .Name x _, .var i => decide (N[i]? = some x) && vis sc x && plainName x
  | .Name x _, .glob y d => x == y && glb sc x && plainName x && Γ.consts.any fun q => q.1 == x && D.same q.2 d
  | .Constant (.int i) _ _, .int j => i == j
  | .Constant (.bool i) _ _, .bl j => i == j
  | .Constant .none _ _, .non => true
  | .Constant (.str i) _ _, .str j => i == j
  | _, _ => false
def chkKV (f : Fch) : KVs → List (Option Expr) → List Expr → Bool
  | .nil, [], [] => true
  | .cons k v r, some pk :: ks, pv :: vs => f pk k && f pv v && chkKV f r ks vs
  | _, _, _ => false
def chkO (f : Fch) : Option Expr → Option E → Bool
  | none, none => true
  | some p, some e => f p e
  | _, _ => false
/-- what is walked -/
def chkI (f : Fch) (sc : Scope) (tg p : Expr) (it : I) : Bool := !isSet p && (match it with
  | .seq a => f p a
  | .rng1 a => (match p with
    | .Call (.Name x _) [q] [] _ => x == Str.ofString "range" && glb sc x && notStar q && f q a
    | _ => false)
  | .rng2 a b => (match p with
    | .Call (.Name x _) [q, r] [] _ => x == Str.ofString "range" && glb sc x && notStar q && notStar r && f q a && f r b
    | _ => false)
  | .zip a b => (match tg, p with
    | .Tuple _ _ _, .Call (.Name x _) [q, r] [] _ => x == Str.ofString "zip" && glb sc x && notStar q && notStar r && f q a && f r b
    | _, _ => false)
  | .keys a => f p a
  | .items a => (match tg, p with
    | .Tuple _ _ _, .Call (.Attribute o m ap) [] [] cp => m == Str.ofString "items" && plainBase o && (ap.endLine == cp.line) && f o a
    | _, _ => false)
  | _ => false)
def chkG (f : Fch) : List Expr → Option E → Bool
  | [], none => true
  | [p], some e => !isIf p && f p e
  | _, _ => false
/-- a comprehension; f: outside, f': within -/
def chkComp (f f' : Fch) (n : Nat) (N : List Str) (sc : Scope) (elt : Expr) (gs : List Comprehension) (scope : Scope) (e : E) : Bool := match e with
  | .comp own a t it g => (match gs with
    | [⟨tg, iter, ifs, async⟩] => decide (async = 0) && blkC N sc scope (own.filterMap fun i => (N[i]?).map fun x => (x, i)) && decide ((own.filterMap fun i => (N[i]?).map fun x => (x, i)).map (·.2) = own) && (T.slots t).all (fun i => decide (i ∈ own)) &&
        chkI f sc tg iter it && chkT false N (relS scope sc) n tg t && chkG f' ifs g && f' elt a
    | _ => false)
  | _ => false
def isFrz : E → Option E
  | .frz a => some a
  | _ => none
def isNC : Expr → Bool
  | .Name .. | .Call .. => true
  | _ => false
def chkE (Γ : Gam) : Nat → List Str → Scope → Expr → E → Bool
  | 0, _, _, _, _ => false
  | n + 1, N, sc, p, e => match isFrz e with
    | some a => isNC p && chkE Γ n N sc p a
    | none => match p with
    | .BoolOp _ [q] _ => chkE Γ n N sc q e && !isIf q
    | .BoolOp op (q :: r :: rs) pos => (match op, e with
      | .And, .and a b => chkE Γ n N sc q a && !isIf q && chkE Γ n N sc (.BoolOp op (r :: rs) pos) b
      | .Or, .or a b => chkE Γ n N sc q a && !isIf q && chkE Γ n N sc (.BoolOp op (r :: rs) pos) b
      | _, _ => false)
    | .Tuple ps _ _ => (match e with
      | .tup es => ps.all notStar && all2 (chkE Γ n N sc) ps es
      | _ => false)
    | .List ps _ => (match e with
      | .lst _ es => ps.all notStar && all2 (chkE Γ n N sc) ps es
      | _ => false)
    | .Dict ks vs _ => (match e with
      | .dct b t .nil => b && ks.isEmpty && vs.isEmpty
      | .dct true true (.cons k v .nil) => (match ks, vs with
        | [some pk], [pv] => chkE Γ n N sc pk k && chkE Γ n N sc pv v
        | _, _ => false)
      | .dct _ false kvs => chkKV (chkE Γ n N sc) kvs ks vs && kvStr kvs && !ks.isEmpty && decide (ks.length ≤ 15)
      | _ => false)
    | .BinOp q o r _ => (match e with
      | .bin op a b => decide (o = opOf op) && chkE Γ n N sc q a && chkE Γ n N sc r b
      | .catB a b => decide (o = opOf .add) && chkE Γ n N sc q a && chkE Γ n N sc r b
      | _ => false)
    | .UnaryOp op q _ => (match op, e with
      | .USub, .neg a => chkE Γ n N sc q a
      | .Not, .not a => chkE Γ n N sc q a && !isIf q
      | _, _ => false)
    | .IfExp t q r _ => (match e with
      | .ite k a b => chkE Γ n N sc t k && !isIf t && chkE Γ n N sc q a && chkE Γ n N sc r b
      | _ => false)
    | .Compare q [o] [r] _ => (match e with
      | .cmp op a b => decide (o = cmOf op) && !isSet r && chkE Γ n N sc q a && chkE Γ n N sc r b
      | .din neg k a => decide (o = inOp neg) && !isSet r && chkE Γ n N sc q k && chkE Γ n N sc r a
      | _ => false)
    | .Compare q [o, o'] [r, s] _ => (match e with
      | .chain op op' a b d => decide (o = cmOf op) && decide (o' = cmOf op') && !isSet s && chkE Γ n N sc q a && chkE Γ n N sc r b && chkE Γ n N sc s d
      | _ => false)
    | .Call fn args kws pos => kws.isEmpty && chkCall Γ sc (chkE Γ n N sc) fn args pos e
    | .Subscript q s _ => (match s, e with
      | .Slice none none (some (.UnaryOp .USub (.Constant (.int i) _ _) _)) _, .rev a => decide (i = 1) && chkE Γ n N sc q a
      | .Slice lo hi none _, .cut a l h => chkE Γ n N sc q a && chkO (chkE Γ n N sc) lo l && chkO (chkE Γ n N sc) hi h
      | s, .sub a i => notSlice s && chkE Γ n N sc q a && chkE Γ n N sc s i
      | s, .dsub a i => notSlice s && chkE Γ n N sc q a && chkE Γ n N sc s i
      | _, _ => false)
    | .ListComp elt gs scope _ => chkComp (chkE Γ n N sc) (chkE Γ n N (relS scope sc)) n N sc elt gs scope e
    | p => chkC Γ N sc p e
section
variable {X : Cx} {c : Ctx} {Γ : Gam} {top : Bool} {N : List Str} {sc : Scope}
theorem good_blk (G : Good Γ X top N sc c) (s : Shared) (H : Hp) (scope : Scope) (cl : List (Str × Addr)) (C : Addr) (fp : List Addr) : Good Γ (X.blk s H scope (compEnvC scope cl C X.env) fp) false N (relS scope sc) c where
  hN := G.hN
  nd := G.nd
  hsc := by
    show relabel scope X.env = relS scope sc
    rw [← G.hsc]; rfl
  calm := G.calm
  units := G.units
  fn := fun h => by cases h
  bl := G.bl
  cs := G.cs
  df := G.df
theorem sndC (G : Good Γ X top N sc c) {p : Expr} {e : E} (h : chkC Γ N sc p e = true) : SE X c p e := by
  unfold chkC at h
  split at h
  · simp only [Bool.and_eq_true, decide_eq_true_eq] at h
    exact .val (se_var G h.1.1 h.1.2 h.2) rfl fun _ _ => rfl
  · simp only [Bool.and_eq_true, List.any_eq_true] at h
    obtain ⟨⟨⟨h1, h2⟩, h3⟩, ⟨x', d'⟩, hm, h4, h5⟩ := h
    have e1 := eq_of_beq h1
    have e2 := eq_of_beq h4
    have e3 := same_eq _ _ h5
    subst e1 e2 e3
    exact .val (se_glob G hm h2 h3) rfl fun _ _ => rfl
  · have e1 := eq_of_beq h
    subst e1
    exact .val se_int rfl fun _ _ => rfl
  · have e1 := eq_of_beq h
    subst e1
    exact .val se_bl rfl fun _ _ => rfl
  · exact .val se_non rfl fun _ _ => rfl
  · have e1 := eq_of_beq h
    subst e1
    exact .val se_str rfl fun _ _ => rfl
  · cases h
theorem kvp_all {f : Fch} (ih : ∀ p e, f p e = true → SE X c p e) : ∀ {kvs : KVs} {ks : List (Option Expr)} {vs : List Expr}, chkKV f kvs ks vs = true → KVp c X kvs ks vs
  | .nil, [], [], _ => .nil
  | .cons k v r, some pk :: ks, pv :: vs, h => by
    simp only [chkKV, Bool.and_eq_true] at h
    exact .cons (ih _ _ h.1.1).pe (ih _ _ h.1.2).pe (kvp_all ih h.2)
  | .nil, _ :: _, _, h | .nil, [], _ :: _, h | .cons _ _ _, [], _, h | .cons _ _ _, none :: _, _, h | .cons _ _ _, some _ :: _, [], h => by simp [chkKV] at h
theorem sndO {f : Fch} (ih : ∀ p e, f p e = true → SE X c p e) {p : Option Expr} {e : Option E} (h : chkO f p e = true) : PO X p (tEvO X.K c e) := by
  unfold chkO at h
  split at h
  · exact so_none
  · exact so_some (ih _ _ h).pe
  · cases h
theorem sndI (G : Good Γ X top N sc c) {f : Fch} (ih : ∀ p e, f p e = true → SE X c p e) {tg p : Expr} {it : I} (h : chkI f sc tg p it = true) : PI X tg p (tEvI X.K c it) ∧ isSet p = false := by
  unfold chkI at h
  simp only [Bool.and_eq_true, Bool.not_eq_true'] at h
  obtain ⟨h0, h⟩ := h
  refine ⟨?_, h0⟩
  split at h
  · exact si_seq (ih _ _ h).pe
  · split at h <;> try (cases h; done)
    simp only [Bool.and_eq_true] at h
    obtain ⟨⟨⟨h1, h2⟩, h3⟩, h4⟩ := h
    have e1 := eq_of_beq h1
    subst e1
    exact si_rng1 G h2 h3 (ih _ _ h4).pe
  · split at h <;> try (cases h; done)
    simp only [Bool.and_eq_true] at h
    obtain ⟨⟨⟨⟨⟨h1, h2⟩, h3⟩, h3'⟩, h4⟩, h5⟩ := h
    have e1 := eq_of_beq h1
    subst e1
    exact si_rng2 G h2 h3 h3' (ih _ _ h4).pe (ih _ _ h5).pe
  · split at h <;> try (cases h; done)
    simp only [Bool.and_eq_true] at h
    obtain ⟨⟨⟨⟨⟨h1, h2⟩, h3⟩, h3'⟩, h4⟩, h5⟩ := h
    have e1 := eq_of_beq h1
    subst e1
    exact si_zip G h2 h3 h3' (ih _ _ h4).pe (ih _ _ h5).pe
  · exact si_keys (ih _ _ h).pe
  · split at h <;> try (cases h; done)
    simp only [Bool.and_eq_true] at h
    obtain ⟨⟨⟨h1, h2⟩, h3⟩, h4⟩ := h
    have e1 := eq_of_beq h1
    subst e1
    exact si_items h2 h3 (ih _ _ h4).pe
  · cases h
theorem sndG {f : Fch} (ih : ∀ p e, f p e = true → SE X c p e) {ps : List Expr} {g : Option E} (h : chkG f ps g = true) : PTs X ps (tEvG X.K c g) := by
  unfold chkG at h
  split at h
  · exact sg_none
  · simp only [Bool.and_eq_true, Bool.not_eq_true'] at h
    exact sg_some ((ih _ _ h.2).pt h.1)
  · cases h
/-- the parts of a comprehension -/
theorem compParts (G : Good Γ X top N sc c) {f f' : Fch} {n : Nat} (ih : ∀ p e, f p e = true → SE X c p e) {elt : Expr} {gs : List Comprehension} {scope : Scope} (ih' : ∀ s H C cl fp p e, f' p e = true → SE (X.blk s H scope (compEnvC scope cl C X.env) fp) c p e) {e : E}
    (h : chkComp f f' n N sc elt gs scope e = true) : ∃ (own : List (Str × Nat)) (a : E) (t : T) (it : I) (g : Option E) (tg iter : Expr) (ifs : List Expr), e = .comp (own.map (·.2)) a t it g ∧ gs = [⟨tg, iter, ifs, 0⟩] ∧ BlkOk X.N X.env.scope scope own ∧ (∀ i ∈ T.slots t, i ∈ own.map (·.2)) ∧
      PI X tg iter (tEvI X.K c it) ∧ (∀ s H C cl fp, PG (X.blk s H scope (compEnvC scope cl C X.env) fp) tg (gOf X.K t)) ∧ (∀ s H C cl fp, PTs (X.blk s H scope (compEnvC scope cl C X.env) fp) ifs (tEvG X.K c g)) ∧
      (∀ s H C cl fp, PE (X.blk s H scope (compEnvC scope cl C X.env) fp) elt (tEv X.K c a)) ∧ ∀ x, foldedSetIterable iter X.env x = pure x := by
  unfold chkComp at h
  split at h <;> try (cases h; done)
  rename_i own a t it g
  split at h <;> try (cases h; done)
  rename_i tg iter ifs async
  simp only [Bool.and_eq_true, decide_eq_true_eq, List.all_eq_true] at h
  obtain ⟨⟨⟨⟨⟨⟨⟨h0, h1⟩, h2⟩, h3⟩, h4⟩, h5⟩, h6⟩, h7⟩ := h
  subst h0
  obtain ⟨i1, i2⟩ := sndI G ih h4
  refine ⟨own.filterMap fun i => (N[i]?).map fun x => (x, i), a, t, it, g, tg, iter, ifs, by rw [h2], rfl, ?_, fun i hi => by rw [h2]; exact h3 i hi, i1, fun s H C cl fp => sndT (good_blk G s H scope cl C fp) n tg t h5, fun s H C cl fp => sndG (ih' s H C cl fp) h6, fun s H C cl fp => (ih' s H C cl fp _ _ h7).pe, folded_no i2⟩
  rw [G.hN, G.hsc]
  exact blkOk_by h1
theorem sndE : ∀ (n : Nat) {X : Cx} {top : Bool} {sc : Scope} {p : Expr} {e : E}, Good Γ X top N sc c → chkE Γ n N sc p e = true → SE X c p e
  | 0, _, _, _, _, _, _, h => by simp [chkE] at h
  | n + 1, X, top, sc, p, e, G, h => by
    have ih : ∀ p e, chkE Γ n N sc p e = true → SE X c p e := fun p e h => sndE n G h
    have hu : X.A.units + 66 < cLine := G.units
    have hu' : X.A.units + 65 < cLine := by omega
    unfold chkE at h
    split at h
    · rename_i a hf
      have ef : e = .frz a := by cases e <;> simp [isFrz] at hf; rw [hf]
      subst ef
      simp only [Bool.and_eq_true] at h
      exact .val (se_frz (ih _ _ h.2).pe) (by cases p <;> first | rfl | simp [isNC] at h) fun _ whole => by cases p <;> first | rfl | simp [isNC] at h
    split at h
    · rename_i op q pos
      simp only [Bool.and_eq_true, Bool.not_eq_true'] at h
      have s := ih _ _ h.1
      have w : PW X (.BoolOp op [q] pos) (tEvT X.K c e) := by
        cases op with
        | And => exact pw_and1 (s.pt h.2)
        | Or => exact pw_or1 (s.pt h.2)
      exact ⟨pe_one s.pe, fun _ => w.pt, fun _ => w⟩
    · rename_i op q r rs pos
      split at h <;> try (cases h; done)
      · rename_i a b
        simp only [Bool.and_eq_true, Bool.not_eq_true'] at h
        have s1 := ih _ _ h.1.1
        have s2 := ih _ _ h.2
        have w := sw_and (s1.pt h.1.2) (s2.pw rfl)
        exact ⟨se_and s1.pe s2.pe, fun _ => w.pt, fun _ => w⟩
      · rename_i a b
        simp only [Bool.and_eq_true, Bool.not_eq_true'] at h
        have s1 := ih _ _ h.1.1
        have s2 := ih _ _ h.2
        have w := sw_or (s1.pt h.1.2) (s2.pw rfl)
        exact ⟨se_or s1.pe s2.pe, fun _ => w.pt, fun _ => w⟩
    · split at h <;> try (cases h; done)
      simp only [Bool.and_eq_true] at h
      exact .val (se_tup (pa_all ih h.1 h.2)) rfl fun _ _ => rfl
    · split at h <;> try (cases h; done)
      simp only [Bool.and_eq_true] at h
      exact .val (se_lst (pa_all ih h.1 h.2)) rfl fun _ _ => rfl
    · split at h <;> try (cases h; done)
      · simp only [Bool.and_eq_true, List.isEmpty_iff] at h
        obtain ⟨⟨rfl, rfl⟩, rfl⟩ := h
        exact .val se_dct0 rfl fun _ _ => rfl
      · split at h <;> try (cases h; done)
        simp only [Bool.and_eq_true] at h
        exact .val (se_dct1 hu (ih _ _ h.1).pe (ih _ _ h.2).pe) rfl fun _ _ => rfl
      simp only [Bool.and_eq_true, decide_eq_true_eq, Bool.not_eq_true'] at h
      obtain ⟨⟨⟨h1, h2⟩, h3⟩, h4⟩ := h
      exact .val (se_dct (kvp_all ih h1) h2 (fun z => by rw [z] at h3; cases h3) h4) rfl fun _ _ => rfl
    · split at h <;> try (cases h; done)
      all_goals
      simp only [Bool.and_eq_true, decide_eq_true_eq] at h
      obtain ⟨⟨h1, h2⟩, h3⟩ := h
      subst h1
      first
        | exact .val (se_bin (ih _ _ h2).pe (ih _ _ h3).pe) rfl fun _ _ => rfl
        | exact .val (se_catB (ih _ _ h2).pe (ih _ _ h3).pe) rfl fun _ _ => rfl
    · split at h <;> try (cases h; done)
      · exact .val (se_neg (ih _ _ h).pe) rfl fun _ _ => rfl
      · simp only [Bool.and_eq_true, Bool.not_eq_true'] at h
        exact ⟨se_not (ih _ _ h.1).pe, fun _ => st_not ((ih _ _ h.1).pt h.2), fun z => (by cases z)⟩
    · split at h <;> try (cases h; done)
      simp only [Bool.and_eq_true, Bool.not_eq_true'] at h
      obtain ⟨⟨⟨h1, h2⟩, h3⟩, h4⟩ := h
      exact ⟨se_ite ((ih _ _ h1).pt h2) (ih _ _ h3).pe (ih _ _ h4).pe, fun z => (by cases z), fun z => (by cases z)⟩
    · split at h <;> try (cases h; done)
      all_goals
      simp only [Bool.and_eq_true, decide_eq_true_eq, Bool.not_eq_true'] at h
      obtain ⟨⟨⟨h1, h2⟩, h3⟩, h4⟩ := h
      subst h1
      first
        | exact ⟨se_cmp hu' (marks_no h2) (ih _ _ h3).pe (ih _ _ h4).pe, fun _ => st_cmp hu' (marks_no h2) (ih _ _ h3).pe (ih _ _ h4).pe, fun z => (by cases z)⟩
        | exact ⟨se_din hu (marks_no h2) (ih _ _ h3).pe (ih _ _ h4).pe, fun _ => st_din hu (marks_no h2) (ih _ _ h3).pe (ih _ _ h4).pe, fun z => (by cases z)⟩
    · split at h <;> try (cases h; done)
      simp only [Bool.and_eq_true, decide_eq_true_eq, Bool.not_eq_true'] at h
      obtain ⟨⟨⟨⟨⟨h1, h2⟩, h3⟩, h4⟩, h5⟩, h6⟩ := h
      subst h1 h2
      exact ⟨se_chain hu' (marks_no2 h3) (ih _ _ h4).pe (ih _ _ h5).pe (ih _ _ h6).pe, fun _ => st_chain hu' (marks_no2 h3) (ih _ _ h4).pe (ih _ _ h5).pe (ih _ _ h6).pe, fun z => (by cases z)⟩
    · rename_i fn args kws pos
      simp only [Bool.and_eq_true, List.isEmpty_iff] at h
      obtain ⟨h1, h2⟩ := h
      subst h1
      exact .val (sndCall G ih h2) rfl fun _ _ => rfl
    · rename_i q s pos
      split at h <;> try (cases h; done)
      · simp only [Bool.and_eq_true, decide_eq_true_eq] at h
        obtain ⟨h1, h2⟩ := h
        subst h1
        exact .val (se_rev (ih _ _ h2).pe) rfl fun _ _ => rfl
      · simp only [Bool.and_eq_true] at h
        exact .val (se_cut (ih _ _ h.1.1).pe (sndO ih h.1.2) (sndO ih h.2)) rfl fun _ _ => rfl
      · simp only [Bool.and_eq_true] at h
        exact .val (se_sub (plain_ix h.1.1) (ih _ _ h.1.2).pe (ih _ _ h.2).pe) rfl fun _ _ => rfl
      · simp only [Bool.and_eq_true] at h
        exact .val (se_dsub hu (plain_ix h.1.1) (ih _ _ h.1.2).pe (ih _ _ h.2).pe) rfl fun _ _ => rfl
    · rename_i elt gs scope pos
      obtain ⟨own, a, t, it, g, tg, iter, ifs, rfl, rfl, a1, a2, a3, a4, a5, a6, a7⟩ := compParts G ih (fun s H C cl fp p e h => sndE n (good_blk G s H scope cl C fp) h) h
      exact .val (se_comp G a1 a2 a3 a4 a5 a6 a7) rfl fun _ _ => rfl
    · exact sndC G h
end
end Ev

namespace Ev
open PySem PySem.Spec PyProof.Rows L2
def nm? : Expr → Option (Str × Pos)
  | .Name x p => some (x, p)
  | _ => none
def isTupE : Expr → Bool
  | .Tuple .. => true
  | _ => false
/-- the parts of a dict comprehension -/
def chkDC (f f' : Fch) (n : Nat) (N : List Str) (sc : Scope) (kx vx : Expr) (gs : List Comprehension) (scope : Scope) (e : E) : Bool := match e with
  | .dcomp true true own k v t it g => (match gs with
    | [⟨tg, iter, ifs, async⟩] => decide (async = 0) && blkC N sc scope (own.filterMap fun i => (N[i]?).map fun x => (x, i)) && decide ((own.filterMap fun i => (N[i]?).map fun x => (x, i)).map (·.2) = own) && (T.slots t).all (fun i => decide (i ∈ own)) &&
        chkI f sc tg iter it && chkT false N (relS scope sc) n tg t && chkG f' ifs g && f' kx k && f' vx v
    | _ => false)
  | .dcp j (.var l) v => (match kx, vx, gs with
    | .Name a _, .Constant (.bool w) _ _, [⟨.Name b p2, .Name ox _, [], async⟩] => decide (async = 0) && decide (a = b) && (v == w) && blkC N sc scope [(a, j)] && decide (N[l]? = some ox) && vis sc ox && plainName ox && decide (N[j]? = some a) && vis (relS scope sc) a && plainName a && chkT false N (relS scope sc) n (.Name b p2) (.name j)
    | _, _, _ => false)
  | _ => false
/-- an assignment -/
def chkA (Γ : Gam) (n : Nat) (N : List Str) (sc : Scope) (tg p : Expr) (s : S) : Bool := match p with
  | .ListComp elt gs scope pos => (match tg, s with
    | .Name y py, .asg (.name i) e => decide (N[i]? = some y) && decide (sc.names.lookup y = some .local) && (py.line == pos.line) && !(scope.names.any fun (n, k) => n == y && (k == .local || k == .cell))
        && chkComp (chkE Γ n N sc) (chkE Γ n N (relS scope sc)) n N sc elt gs scope e
    | _, _ => false)
  | .DictComp kx vx gs scope pos => (match tg, s with
    | .Name y py, .asg (.name i) e => decide (N[i]? = some y) && decide (sc.names.lookup y = some .local) && (py.line == pos.line) && !(scope.names.any fun (n, k) => n == y && (k == .local || k == .cell))
        && chkDC (chkE Γ n N sc) (chkE Γ n N (relS scope sc)) n N sc kx vx gs scope e
    | _, _ => false)
  | p => !isComp p && (match tg with
    | .Subscript o i _ => (match s with
      | .setK a b e => chkE Γ n N sc o a && chkE Γ n N sc i b && chkE Γ n N sc p e
      | .setI a b e => notSlice i && chkE Γ n N sc o a && chkE Γ n N sc i b && chkE Γ n N sc p e
      | _ => false)
    | .Tuple ts k tp => (match s with
      | .asg t e => chkE Γ n N sc p e && chkT true N sc n (.Tuple ts k tp) t && (match p with
        | .Tuple vs _ _ => (match swC sc ts vs with
          | some none => true
          | some (some nms) => (match ts, vs, t, e with
            | [.Name x _, .Name y _], [_, _], .tup [.name i, .name j], .tup [_, _] => decide (nms = [x, y]) && decide (i ≠ j) && decide (sc.names.lookup x = some .local) && decide (sc.names.lookup y = some .local)
            | [.Name x _, .Name y _, .Name z _], [_, _, _], .tup [.name i, .name j, .name l], .tup [_, _, _] => decide (nms = [x, y, z]) && decide (i ≠ j) && decide (i ≠ l) && decide (j ≠ l) && decide (sc.names.lookup x = some .local) && decide (sc.names.lookup y = some .local) && decide (sc.names.lookup z = some .local)
            | _, _, _, _ => false)
          | none => false)
        | _ => true)
      | _ => false)
    | .Name x q => (match s with
      | .asg t e => chkE Γ n N sc p e && chkT true N sc n (.Name x q) t
      | _ => false)
    | _ => false)
mutual
def chkS (Γ : Gam) (n : Nat) (N : List Str) (sc : Scope) : Nat → Stmt → S → Bool
  | 0, _, _ => false
  | m + 1, p, s => match p with
    | .Pass _ => (match s with
      | .pass => true
      | _ => false)
    | .Raise .. => (match s with
      | .raise => true
      | _ => false)
    | .Expr q _ => (match s with
      | .expr e => !isComp q && chkE Γ n N sc q e
      | _ => false)
    | .Return (some q) _ => (match s with
      | .ret e => chkE Γ n N sc q e
      | _ => false)
    | .If t as bs _ => (match s with
      | .ite e a b => !isIf t && chkE Γ n N sc t e && chkSs Γ n N sc m as a && chkSs Γ n N sc m bs b
      | _ => false)
    | .While t as bs _ => (match s with
      | .whl e a => bs.isEmpty && !isIf t && chkE Γ n N sc t e && chkSs Γ n N sc m as a
      | _ => false)
    | .For tg iter as bs _ => (match s with
      | .for_ t it a => bs.isEmpty && chkI (chkE Γ n N sc) sc tg iter it && chkT true N sc n tg t && chkSs Γ n N sc m as a
      | _ => false)
    | .Assign [tg] q _ => chkA Γ n N sc tg q s
    | _ => false
def chkSs (Γ : Gam) (n : Nat) (N : List Str) (sc : Scope) : Nat → List Stmt → List S → Bool
  | 0, _, _ => false
  | _ + 1, [], [] => true
  | m + 1, p :: ps, s :: ss => chkS Γ n N sc m p s && chkSs Γ n N sc m ps ss
  | _, _, _ => false
end
section
variable {X : Cx} {c : Ctx} {Γ : Gam} {N : List Str} {sc : Scope}
theorem sole_no {tg p : Expr} {l : Nat} {env : PySem.Env} (h : isComp p = false) : swapsWithSole [tg] p l env = pure false := by
  unfold swapsWithSole
  exact swaps_no h
theorem sws_no {tg p : Expr} {env : PySem.Env} (h : isTupE p = false ∨ isTupE tg = false) (hl : ∀ ts q, tg ≠ .List ts q) : swappedStores [tg] p env = pure none := by
  rcases h with h | h
  · cases p <;> first | (simp [isTupE] at h; done) | (cases tg <;> rfl)
  · cases tg <;> first | (simp [isTupE] at h; done) | rfl | exact absurd rfl (hl _ _)
theorem par_parts {f : Fch} (ih : ∀ p e, f p e = true → SE X c p e) {ps : List Expr} {es : List E} (h : (ps.all notStar && all2 f ps es) = true) : PA X ps (tEvs X.K c es) := by
  simp only [Bool.and_eq_true] at h
  exact pa_all ih h.1 h.2
theorem chkE_tup {n : Nat} {ps : List Expr} {k : Nat} {q} {e : E} (h : chkE Γ n N sc (.Tuple ps k q) e = true) (hf : isFrz e = none) : ∃ m es, n = m + 1 ∧ e = .tup es ∧ (ps.all notStar && all2 (chkE Γ m N sc) ps es) = true := by
  cases n with
  | zero => simp [chkE] at h
  | succ m =>
    unfold chkE at h
    rw [hf] at h
    simp only at h
    split at h <;> try (cases h; done)
    exact ⟨m, _, rfl, rfl, h⟩
theorem sndA (G : Good Γ X true N sc c) (hk : sc.kind = .function) {n : Nat} {tg p : Expr} {pos : Pos} {s : S} (h : chkA Γ n N sc tg p s = true) : PS X (.Assign [tg] p pos) (tEvS X.K c s) := by
  have ih : ∀ p e, chkE Γ n N sc p e = true → SE X c p e := fun p e h => sndE n G h
  unfold chkA at h
  split at h
  · rename_i elt gs scope cpos
    split at h <;> try (cases h; done)
    rename_i y py i e
    simp only [Bool.and_eq_true, decide_eq_true_eq, Bool.not_eq_true'] at h
    obtain ⟨⟨⟨⟨h1, h2⟩, h3⟩, h4⟩, h5⟩ := h
    obtain ⟨own, a, t, it, g, tg, iter, ifs, rfl, rfl, a1, a2, a3, a4, a5, a6, a7⟩ := compParts G ih (fun s H C cl fp p e h => sndE n (good_blk G s H scope cl C fp) h) h5
    exact s_asgC G (by rw [G.hN]; exact h1) (by rw [G.hsc]; exact h2) (sw_true (by rw [G.hsc]; exact hk) (by rw [G.hsc]; exact h2) h3 h4) a1 a2 a3 a4 a5 a6 a7
  · rename_i kx vx gs scope cpos
    split at h <;> try (cases h; done)
    rename_i y py i e
    simp only [Bool.and_eq_true, decide_eq_true_eq, Bool.not_eq_true'] at h
    obtain ⟨⟨⟨⟨h1, h2⟩, h3⟩, h4⟩, h5⟩ := h
    unfold chkDC at h5
    split at h5 <;> try (cases h5; done)
    · rename_i own k v t it g
      split at h5 <;> try (cases h5; done)
      rename_i tg iter ifs async
      simp only [Bool.and_eq_true, decide_eq_true_eq, List.all_eq_true] at h5
      obtain ⟨⟨⟨⟨⟨⟨⟨⟨g0, g1⟩, g2⟩, g3⟩, g4⟩, g5⟩, g6⟩, g7⟩, g8⟩ := h5
      subst g0
      obtain ⟨i1, i2⟩ := sndI G ih g4
      have ih' : ∀ s H C cl fp p e, chkE Γ n N (relS scope sc) p e = true → SE (X.blk s H scope (compEnvC scope cl C X.env) fp) c p e := fun s H C cl fp p e h => sndE n (good_blk G s H scope cl C fp) h
      rw [← g2]
      exact s_dcomp G.units G (by rw [G.hN]; exact h1) (by rw [G.hsc]; exact h2) (sw_dict (by rw [G.hsc]; exact hk) (by rw [G.hsc]; exact h2) h3 h4) (by rw [G.hN, G.hsc]; exact blkOk_by g1) (fun i hi => by rw [g2]; exact g3 i hi) i1
        (fun s H C cl fp => sndT (good_blk G s H scope cl C fp) n tg t g5) (fun s H C cl fp => sndG (ih' s H C cl fp) g6) (fun s H C cl fp => (ih' s H C cl fp _ _ g7).pe) (fun s H C cl fp => (ih' s H C cl fp _ _ g8).pe) (folded_no i2)
    · rename_i j l v
      split at h5 <;> try (cases h5; done)
      rename_i a p1 w kk pk b p2 ox p3 async
      simp only [Bool.and_eq_true, decide_eq_true_eq] at h5
      obtain ⟨⟨⟨⟨⟨⟨⟨⟨⟨⟨g0, g1⟩, g2⟩, g3⟩, g4⟩, g5⟩, g6⟩, g7⟩, g8⟩, g9⟩, g10⟩ := h5
      have g2 := eq_of_beq g2
      subst g0 g1 g2
      obtain ⟨n1, n2, _⟩ := plainName_ok g6
      obtain ⟨m1, m2, _⟩ := plainName_ok g9
      refine s_dcp G.units G (by rw [G.hN]; exact h1) (by rw [G.hsc]; exact h2) (sw_dict (by rw [G.hsc]; exact hk) (by rw [G.hsc]; exact h2) h3 h4) (by rw [G.hN, G.hsc]; exact blkOk_by g3) (pe_var (by rw [G.hN]; exact g4) (vis_ok G.hsc g5) n1 n2)
        (fun s H C cl fp => sndT (good_blk G s H scope cl C fp) n _ (.name j) g10) (fun s H C cl fp => ?_)
      have G' := good_blk G s H scope cl C fp
      exact pe_var (by rw [G'.hN]; exact g7) (vis_ok G'.hsc g8) m1 m2
  · rename_i hnc hnd
    simp only [Bool.and_eq_true, Bool.not_eq_true'] at h
    obtain ⟨h0, h⟩ := h
    split at h
    · split at h <;> try (cases h; done)
      · simp only [Bool.and_eq_true] at h
        exact s_setK G.units (ih _ _ h.1.1).pe (ih _ _ h.1.2).pe (ih _ _ h.2).pe (swaps_no h0)
      simp only [Bool.and_eq_true] at h
      exact s_setI h.1.1.1 (ih _ _ h.1.1.2).pe (ih _ _ h.1.2).pe (ih _ _ h.2).pe (sole_no h0)
    · rename_i ts k tp
      split at h <;> try (cases h; done)
      rename_i t e
      simp only [Bool.and_eq_true] at h
      obtain ⟨⟨h1, h2⟩, h3⟩ := h
      have plain : swappedStores [.Tuple ts k tp] p X.env = pure none → PS X (.Assign [.Tuple ts k tp] p pos) (tEvS X.K c (.asg t e)) := fun hw => s_asg (ih _ _ h1).pe (sndT G n _ _ h2) (sole_no h0) hw rfl
      split at h3
      · rename_i vs k2 p2
        have hw : ∀ r, swC sc ts vs = some r → swappedStores [.Tuple ts k tp] (.Tuple vs k2 p2) X.env = pure r := fun r hr => swC_ok G.hsc hk hr
        split at h3
        · rename_i hr
          exact plain (hw _ hr)
        · rename_i nms hr
          have hw' := hw _ hr
          split at h3 <;> try (cases h3; done)
          · rename_i x p1 y p2 va vb i j ea eb
            simp only [Bool.and_eq_true, decide_eq_true_eq] at h3
            obtain ⟨⟨⟨e1, e2⟩, e3⟩, e4⟩ := h3
            subst e1
            obtain ⟨m, es, rfl, he, hh⟩ := chkE_tup h1 rfl
            cases he
            have g1 := sndT G _ _ _ h2
            unfold chkT at h2
            simp only [all2, Bool.and_eq_true] at h2
            obtain ⟨_, h5, h6, _⟩ := h2
            cases m with
            | zero => simp [chkT] at h5
            | succ m =>
              simp only [chkT, Bool.and_eq_true, decide_eq_true_eq] at h5 h6
              exact s_par2 G (by rw [G.hN]; exact h5.1) (by rw [G.hN]; exact h6.1) e2 (by rw [G.hsc]; exact e3) (by rw [G.hsc]; exact e4) (par_parts (fun p e h => sndE _ G h) hh) hw'
          · rename_i x p1 y p2 z p3 va vb vc i j l ea eb ec
            simp only [Bool.and_eq_true, decide_eq_true_eq] at h3
            obtain ⟨⟨⟨⟨⟨⟨e1, e2⟩, e3⟩, e4⟩, e5⟩, e6⟩, e7⟩ := h3
            subst e1
            obtain ⟨m, es, rfl, he, hh⟩ := chkE_tup h1 rfl
            cases he
            unfold chkT at h2
            simp only [all2, Bool.and_eq_true] at h2
            obtain ⟨_, h5, h6, h7, _⟩ := h2
            cases m with
            | zero => simp [chkT] at h5
            | succ m =>
              simp only [chkT, Bool.and_eq_true, decide_eq_true_eq] at h5 h6 h7
              exact s_par3 G (by rw [G.hN]; exact h5.1) (by rw [G.hN]; exact h6.1) (by rw [G.hN]; exact h7.1) e2 e3 e4 (by rw [G.hsc]; exact e5) (by rw [G.hsc]; exact e6) (by rw [G.hsc]; exact e7) (par_parts (fun p e h => sndE _ G h) hh) hw'
        · cases h3
      · rename_i hnt
        refine plain (sws_no (.inl ?_) (fun ts q z => by cases z))
        cases p <;> first | rfl | exact absurd rfl (hnt _ _ _)
    · split at h <;> try (cases h; done)
      simp only [Bool.and_eq_true] at h
      exact s_asg (ih _ _ h.1).pe (sndT G n _ _ h.2) (sole_no h0) (sws_no (.inr rfl) (fun ts q z => by cases z)) rfl
    · cases h
mutual
theorem sndS (G : Good Γ X true N sc c) (hk : sc.kind = .function) (hp : PassesOwn (model X.prog X.w) X.A X.env X.xe) {n : Nat} : ∀ (m : Nat) (p : Stmt) (s : S), chkS Γ n N sc m p s = true → PS X p (tEvS X.K c s)
  | 0, _, _, h => by simp [chkS] at h
  | m + 1, p, s, h => by
    have ih : ∀ p e, chkE Γ n N sc p e = true → SE X c p e := fun p e h => sndE n G h
    unfold chkS at h
    split at h
    · split at h <;> try (cases h; done)
      exact s_pass
    · split at h <;> try (cases h; done)
      exact s_raise
    · split at h <;> try (cases h; done)
      simp only [Bool.and_eq_true, Bool.not_eq_true'] at h
      exact s_expr (ih _ _ h.2).pe (swaps_no h.1)
    · split at h <;> try (cases h; done)
      exact s_ret (ih _ _ h).pe
    · split at h <;> try (cases h; done)
      simp only [Bool.and_eq_true, Bool.not_eq_true'] at h
      exact s_ite ((ih _ _ h.1.1.2).pt h.1.1.1) (sndSs G hk hp m _ _ h.1.2) (sndSs G hk hp m _ _ h.2)
    · split at h <;> try (cases h; done)
      simp only [Bool.and_eq_true, Bool.not_eq_true', List.isEmpty_iff] at h
      obtain ⟨⟨⟨h1, h2⟩, h3⟩, h4⟩ := h
      subst h1
      exact s_while hp ((ih _ _ h3).pt h2) (sndSs G hk hp m _ _ h4)
    · split at h <;> try (cases h; done)
      simp only [Bool.and_eq_true, List.isEmpty_iff] at h
      obtain ⟨⟨⟨h1, h2⟩, h3⟩, h4⟩ := h
      subst h1
      obtain ⟨i1, i2⟩ := sndI G ih h2
      exact s_for hp G.calm i1 (sndT G n _ _ h3) (sndSs G hk hp m _ _ h4) (folded_no i2)
    · exact sndA G hk h
    · cases h
theorem sndSs (G : Good Γ X true N sc c) (hk : sc.kind = .function) (hp : PassesOwn (model X.prog X.w) X.A X.env X.xe) {n : Nat} : ∀ (m : Nat) (p : List Stmt) (s : List S), chkSs Γ n N sc m p s = true → PSs X p (tEvSs X.K c s)
  | 0, _, _, h => by simp [chkSs] at h
  | m + 1, [], [], _ => ss_nil
  | m + 1, p :: ps, s :: ss, h => by
    simp only [chkSs, Bool.and_eq_true] at h
    exact ss_cons (sndS G hk hp m _ _ h.1) (sndSs G hk hp m _ _ h.2)
  | m + 1, [], _ :: _, h => by simp [chkSs] at h
  | m + 1, _ :: _, [], h => by simp [chkSs] at h
end
end
end Ev

namespace Ev
open PySem PySem.Spec PyProof.Rows L2
section
variable {K : PySem.W.Frag} {F F1 H H1 : Hp} {sa sa1 : List Addr} {st st1 st' : Store} {b : Nat}
mutual
theorem Dat.cutP (hp : Pre sa sa1) : ∀ {v : V} {d : D}, Dat K F sa1 v d → D.under sa.length d = true → Dat K F sa v d
  | _, _, .non, _ => .non
  | _, _, .bl b, _ => .bl b
  | _, _, .int i, _ => .int i
  | _, _, .str x, _ => .str x
  | _, _, .tup q r, h => .tup q (Dats.cutP hp r h)
  | _, _, .lst q r, h => .lst q (Dats.cutP hp r h)
  | _, _, .dct q u r s, h => by
    simp only [D.under, Bool.and_eq_true] at h
    exact .dct q u (Dats.cutP hp r h.1) (Dats.cutP hp s h.2)
  | _, _, .box (n := n) e, h => .box (by
    obtain ⟨x, rfl⟩ := hp
    have h : n < sa.length := of_decide_eq_true h
    rw [List.getElem?_append_left h] at e
    exact e)
  | _, _, .ro q r, h => .ro q (Dats.cutP hp r h)
theorem Dats.cutP (hp : Pre sa sa1) : ∀ {vs : List V} {ds : List D}, Dats K F sa1 vs ds → D.unders sa.length ds = true → Dats K F sa vs ds
  | _, _, .nil, _ => .nil
  | _, _, .cons q r, h => by
    simp only [D.unders, Bool.and_eq_true] at h
    exact .cons (Dat.cutP hp q h.1) (Dats.cutP hp r h.2)
end
theorem BoxAt.cutP (hp : Pre sa sa1) {a : Addr} {x : B} (q : BoxAt K F sa1 H a x) (h : x.under sa.length = true) : BoxAt K F sa H a x := by
  cases x with
  | lst ds => obtain ⟨vs, e, r⟩ := q; exact ⟨vs, e, r.cutP hp h⟩
  | dct t ks vs =>
    obtain ⟨u, kv, vv, e, d, r, s⟩ := q
    simp only [B.under, Bool.and_eq_true] at h
    exact ⟨u, kv, vv, e, d, r.cutP hp h.1, s.cutP hp h.2⟩
  | lk t ks vs =>
    obtain ⟨o, u, kv, vv, e, d, r, s⟩ := q
    simp only [B.under, Bool.and_eq_true] at h
    exact ⟨o, u, kv, vv, e, d, r.cutP hp h.1, s.cutP hp h.2⟩
  | dead => trivial
theorem Pre.nodup (hp : Pre sa sa1) (h : sa1.Nodup) : sa.Nodup := by
  obtain ⟨x, rfl⟩ := hp
  exact (List.nodup_append.mp h).1
/-- a call's own objects are dropped -/
theorem Wd.drop (W : Wd K st.length F sa st H) (W1 : Wd K st.length F1 sa1 st1 H1) (E : Ext st.length F sa st H F1 sa1 st1 H1) : Wd K st.length F1 sa (st1.take st.length) H1 ∧ Ext st.length F sa st H F1 sa (st1.take st.length) H1 := by
  have hl : (st1.take st.length).length = st.length := by rw [List.length_take]; exact Nat.min_eq_left W1.le
  have tk : ∀ {n : Nat} {x : B}, (st1.take st.length)[n]? = some x → n < st.length ∧ st1[n]? = some x := fun {n x} h => by
    have hn : n < st.length := by
      have := (List.getElem?_eq_some_iff.mp h).1
      omega
    rw [List.getElem?_take_of_lt hn] at h
    exact ⟨hn, h⟩
  have od : ∀ m, OldOk m st1 → OldOk m (st1.take st.length) := fun m h n x hn e => h n x hn (tk e).2
  refine ⟨⟨W1.sub, by rw [W.len, hl], W.nd, fun n a x h1 h2 h3 => W1.out n a x (E.pre.get h1) (tk h2).2 h3, fun a ha => W1.there a (E.pre.mem ha), fun n a x h1 h2 => ?_, od _ W1.old, by rw [hl]; exact Nat.le_refl _⟩, ⟨E.sub, .refl _, E.fr, fun a h h' => absurd h h', fun m hm h => od m (E.old m hm h), E.fz⟩⟩
  obtain ⟨hn, e⟩ := tk h2
  exact (W1.box n a x (E.pre.get h1) e).cutP E.pre (by rw [W.len]; exact W1.old n x hn e)
theorem ret_ok {v : V} {d₀ d : D} (W : Wd K st.length F sa st H) (W1 : Wd K st.length F1 sa1 st1 H1) (E : Ext st.length F sa st H F1 sa1 st1 H1) (q : Dat K F1 sa1 v d₀) (h : retv st.length d₀ st1 = some (d, st')) :
    ∃ sa2, Wd K st.length F1 sa2 st' H1 ∧ Ext st.length F sa st H F1 sa2 st' H1 ∧ Dat K F1 sa2 v d := by
  obtain ⟨W2, E2⟩ := W.drop W1 E
  have plain : D.under st.length d₀ = true → d₀ = d → st1.take st.length = st' → ∃ sa2, Wd K st.length F1 sa2 st' H1 ∧ Ext st.length F sa st H F1 sa2 st' H1 ∧ Dat K F1 sa2 v d := fun h1 h2 h3 => by
    subst h2 h3
    exact ⟨sa, W2, E2, q.cutP E.pre (by rw [W.len]; exact h1)⟩
  unfold retv at h
  split at h
  · rename_i n
    split at h
    · rename_i hn
      simp only [Option.some.injEq, Prod.mk.injEq] at h
      exact plain (decide_eq_true hn) h.1 h.2
    · rename_i hn
      split at h <;> try (cases h; done)
      rename_i x hx
      simp only [Option.ite_none_right_eq_some, Option.some.injEq, Prod.mk.injEq] at h
      obtain ⟨hu, rfl, rfl⟩ := h
      simp only [Bool.and_eq_true] at hu
      cases q with
      | @box _ a hn1 =>
        have ha : a ∉ sa := fun hm => by
          obtain ⟨i, hi⟩ := List.getElem?_of_mem hm
          have := nodup_at W1.nd hn1 (E.pre.get hi)
          have h2 := (List.getElem?_eq_some_iff.mp hi).1
          rw [W.len] at h2
          omega
        have hx' : x ≠ .dead := fun z => by rw [z] at hu; exact absurd hu.2 (by simp)
        have hpre : Pre sa (sa ++ [a]) := ⟨_, rfl⟩
        have hl : (st1.take st.length).length = st.length := by rw [← W2.len, W.len]
        have at2 : ∀ {n : Nat} {y : Addr} {z : B}, (sa ++ [a])[n]? = some y → (st1.take st.length ++ [x])[n]? = some z → (sa[n]? = some y ∧ (st1.take st.length)[n]? = some z) ∨ (n = st.length ∧ y = a ∧ z = x) := fun {n y z} h1 h2 => by
          by_cases hn : n < sa.length
          · rw [List.getElem?_append_left hn] at h1
            rw [List.getElem?_append_left (by rw [hl, ← W.len]; exact hn)] at h2
            exact .inl ⟨h1, h2⟩
          · have e : n = sa.length := by
              have := (List.getElem?_eq_some_iff.mp h1).1
              simp at this; omega
            subst e
            simp at h1
            rw [List.getElem?_append_right (by rw [hl, ← W.len]; exact Nat.le_refl _), hl, ← W.len] at h2
            simp at h2
            exact .inr ⟨W.len, h1.symm, h2.symm⟩
        refine ⟨sa ++ [a], ⟨W1.sub, by simp [hl, W.len], nodup_snoc W.nd ha, fun n y z h1 h2 h3 => ?_, fun y hy => ?_, fun n y z h1 h2 => ?_, W2.old.snoc W2.le, by simp [hl]⟩, ⟨E.sub, hpre, E.fr, fun y h h' => ?_, fun m hm h => (E2.old m hm h).snoc (by rw [hl]; exact hm), E.fz⟩, .box (by rw [← W.len]; simp)⟩
        · rcases at2 h1 h2 with ⟨h1, h2⟩ | ⟨_, rfl, rfl⟩
          · exact W2.out n y z h1 h2 h3
          · exact W1.out _ _ _ hn1 hx h3
        · rcases List.mem_append.mp hy with hy | hy
          · exact W2.there y hy
          · have e : y = a := by simpa using hy
            subst e
            exact W1.there _ (List.mem_of_getElem? hn1)
        · rcases at2 h1 h2 with ⟨h1, h2⟩ | ⟨_, rfl, rfl⟩
          · exact (W2.box n y z h1 h2).stable (.refl _) hpre rfl
          · exact ((W1.box _ _ _ hn1 hx).cutP E.pre (by rw [W.len]; exact hu.1)).stable (.refl _) hpre rfl
        · rcases List.mem_append.mp h with h | h
          · exact absurd h h'
          · have e : y = a := by simpa using h
            subst e
            exact E.new _ (List.mem_of_getElem? hn1) h'
  · simp only [Option.ite_none_right_eq_some, Option.some.injEq, Prod.mk.injEq] at h
    exact plain h.1 h.2.1 h.2.2
end
/-- a def of the module -/
structure En where
  x : Str
  id : Nat
  N : List Str
  ps : List Str
  st : Stmt
  fn : Fn
def enOk (Γ : Gam) (T : Nat → Option Fn) (e : En) : Bool :=
  C8.scC e.N e.ps (defScope e.st) && decide (e.fn.np = e.ps.length) && decide (e.fn.ns = e.N.length) && chkSs Γ 60 e.N (defScope e.st) 60 (defBody e.st) e.fn.body
structure Stage (P : Program) (w : World) (K : PySem.W.Frag) (mg : Str → Option Value) (Γ : Gam) (T : Nat → Option Fn) (ens : List En) : Prop where
  bl : ∀ n ∈ bNames, mg (Str.ofString n) = none
  cs : ∀ x d, (x, d) ∈ Γ.consts → ∃ v u, mg x = some u ∧ RelV v u ∧ Dat K (fun _ => none) [] v d
  df : ∀ x f n, (x, f, n) ∈ Γ.defs → ∃ e ∈ ens, e.x = x ∧ e.id = f ∧ e.ps.length = n
  en : ∀ e ∈ ens, ∃ a fd, mg e.x = some (.ref a) ∧ FunD K e.x e.x (defArgs e.st) (defBody e.st) (defScope e.st) [] [] a fd ∧ Binds K fd e.ps []
  ok : ∀ e ∈ ens, enOk Γ T e = true ∧ T e.id = some e.fn
section
variable {P : Program} {w : World} {K : PySem.W.Frag} {mg : Str → Option Value} {base : Heap} {Γ : Gam} {T : Nat → Option Fn} {ens : List En}
theorem lev (g : Stage P w K mg Γ T ens) (fuel : Nat) : ∀ (k : Nat) (e : En), e ∈ ens → ∀ (a : Addr) (fd : FuncData), FunD K e.x e.x (defArgs e.st) (defBody e.st) (defScope e.st) [] [] a fd → FnOk P w K mg base CX0 k a fd e.ps (spEv K (evCall T fuel k) e.id e.ps.length)
  | 0, e, he, a, fd, F => ⟨fun vs H Q E ⟨_, _, _, _, _, _, hl, _⟩ => hl, fun A outer s H args us vs Q E hr e0 hb hv ⟨_, _, _, _, _, _, _, _, _, h, _⟩ => by simp [evCall] at h⟩
  | k + 1, e, he, a, fd, F => by
    obtain ⟨hc, hT⟩ := g.ok e he
    unfold enOk at hc
    simp only [Bool.and_eq_true, decide_eq_true_eq] at hc
    obtain ⟨⟨⟨h1, h2⟩, h3⟩, h4⟩ := hc
    have S := C8.fnScope_by h1
    refine F.ok S (fun vs H Q E ⟨_, _, _, _, _, _, hl, _⟩ => hl) fun cdv A outer s H vs Q E hr ⟨F0, sa, st, ds, d, st', hl, W, Ds, hev, O⟩ => ?_
    simp only [evCall, hT, Option.bind_some] at hev
    split at hev <;> try (cases hev; done)
    rename_i hlen
    simp only [Option.bind_eq_some_iff] at hev
    obtain ⟨⟨fl, st1⟩, he1, he2⟩ := hev
    have G : Good Γ (cxOf CX0 P w K mg base e.N e.x (defScope e.st) a cdv A outer s H E).nox true e.N (defScope e.st) ⟨evCall T fuel k, st.length, fuel⟩ := {
      hN := rfl, nd := S.nd, hsc := rfl, calm := rfl
      units := by
        have := hr.un
        show (A.deeper _).units + 66 < cLine
        omega
      fn := fun _ _ => rfl, bl := g.bl, cs := g.cs
      df := fun x f n hm => by
        obtain ⟨e2, he2, rfl, rfl, rfl⟩ := g.df x f n hm
        obtain ⟨a2, fd2, q1, q2, q3⟩ := g.en e2 he2
        exact ⟨a2, fd2, e2.ps, k, q1, q2.kp, lev g fuel k e2 he2 a2 fd2 q2, hr, q3⟩ }
    refine ⟨tEvSs K ⟨evCall T fuel k, st.length, fuel⟩ e.fn.body, PSs.nox (sndSs G S.kind PassesOwn.never 60 _ _ h4), F0, sa, st, _, fl, st1, W, ⟨?_, fun i d' hi => ?_⟩, he1, ?_⟩
    · have := Ds.length
      unfold L2.start
      simp only [List.length_append, List.length_map, List.length_replicate, h2, h3]
      omega
    · unfold L2.start
      have hle := Ds.length
      by_cases hi' : i < ds.length
      · rw [List.getElem?_append_left (by simpa using hi')] at hi
        rw [List.getElem?_append_left (by simpa [hle] using hi')]
        rw [List.getElem?_map] at hi
        cases hd : ds[i]? with
        | none => rw [hd] at hi; cases hi
        | some d2 =>
          rw [hd] at hi
          cases hi
          obtain ⟨v, hv, q⟩ := Ds.get hd
          exact ⟨v, by rw [List.getElem?_map, hv]; rfl, q⟩
      · rw [List.getElem?_append_right (by simpa using hi')] at hi
        rw [List.getElem?_replicate] at hi
        split at hi <;> cases hi
    · cases fl with
      | nx ρ' =>
        simp only [Option.some.injEq, Prod.mk.injEq] at he2
        obtain ⟨rfl, rfl⟩ := he2
        intro σ' F' sa' H' W' E' R'
        obtain ⟨W2, E2⟩ := W.drop W' E'
        exact O .non F' sa H' W2 E2 .non
      | rt d0 =>
        simp only at he2
        intro v F' sa' H' W' E' q
        obtain ⟨sa2, W2, E2, q2⟩ := ret_ok W W' E' q he2
        exact O v F' sa2 H' W2 E2 q2
      | bk ρ' => cases he2
end
end Ev

namespace Ev
open PySem PySem.Spec PyProof.Rows L2
def BindsOk (e : En) : Prop := ∀ (kV doc pm : Value) (an : Option Addr) (cdv ct : Value) (us : List Value), us.length = e.ps.length → bindArgs (PySem.W.fnOf e.x e.x (defArgs e.st) (defBody e.st) (defScope e.st) .none kV doc pm an cdv ct) ⟨us, []⟩ = pure (e.ps.zip us)
mutual
def datB (K : PySem.W.Frag) : D → Value → Bool
  | .non, .none => true
  | .bl b, .bool c => b == c
  | .int i, .int j _ => decide (i = j)
  | .str x, .str y _ => decide (x = y)
  | .tup ds, .ref a => (match K.lookup a with
    | some ⟨.type c, _, .seq its _, _⟩ => decide (c = "tuple") && decide (its.size ≤ sizeLine) && datsB K ds its.toList
    | _ => false)
  | _, _ => false
def datsB (K : PySem.W.Frag) : List D → List Value → Bool
  | [], [] => true
  | d :: ds, u :: us => datB K d u && datsB K ds us
  | _, _ => false
end
mutual
theorem datB_ok {K : PySem.W.Frag} : ∀ (d : D) (u : Value), datB K d u = true → ∃ v, RelV v u ∧ Dat K (fun _ => none) [] v d
  | .non, u, h => by
    cases u <;> simp [datB] at h
    exact ⟨.non, rfl, .non⟩
  | .bl b, u, h => by
    cases u <;> simp [datB] at h
    subst h
    exact ⟨.bl b, rfl, .bl b⟩
  | .int i, u, h => by
    cases u <;> simp [datB] at h
    subst h
    exact ⟨.int i, ⟨_, rfl⟩, .int i⟩
  | .str x, u, h => by
    cases u <;> simp [datB] at h
    subst h
    exact ⟨.str x, ⟨_, rfl⟩, .str x⟩
  | .tup ds, u, h => by
    cases u <;> try (simp [datB] at h; done)
    rename_i a
    unfold datB at h
    split at h <;> try (cases h; done)
    rename_i c od its n sl q
    simp only [Bool.and_eq_true, decide_eq_true_eq] at h
    obtain ⟨⟨h1, h2⟩, h3⟩ := h
    subst h1
    obtain ⟨vs, hv, hd⟩ := datsB_ok ds its.toList h3
    exact ⟨.ref a, rfl, .tup (.inr ⟨_, its, n, q, rfl, rfl, h2, hv⟩) hd⟩
  | .lst _, u, h | .dct _ _ _, u, h | .box _, u, h | .ro _, u, h => by simp [datB] at h
theorem datsB_ok {K : PySem.W.Frag} : ∀ (ds : List D) (us : List Value), datsB K ds us = true → ∃ vs, Vals vs us ∧ Dats K (fun _ => none) [] vs ds
  | [], [], _ => ⟨[], .nil, .nil⟩
  | d :: ds, u :: us, h => by
    simp only [datsB, Bool.and_eq_true] at h
    obtain ⟨v, r, q⟩ := datB_ok d u h.1
    obtain ⟨vs, rs, qs⟩ := datsB_ok ds us h.2
    exact ⟨v :: vs, .cons r rs, .cons q qs⟩
  | [], _ :: _, h | _ :: _, [], h => by simp [datsB] at h
end
def constB (K : PySem.W.Frag) (q : Str × D) : Bool := match PySem.W.nsIn K mainGlobals q.1 with
  | some (some u) => datB K q.2 u
  | _ => false
abbrev AlE : Type := He.AlD × Bool
def obsE (n : Nat) (fa : List He.Fa) (fn : List He.DefD) (cs : List (Str × D)) (g : Addr → Option Obj) : AlE := (He.obsDG n fa fn g, cs.all (constB (He.frG g (He.asD g n))))
def hookE (n : Nat) (fa : List He.Fa) (fn : List He.DefD) (cs : List (Str × D)) : PySem.W.Hook where
  α := AlE
  obs := fun s => obsE n fa fn cs s.heap.get?
  val := fun _ => (He.valD fn, true)
  says := fun _ h => ∃ K : PySem.W.Frag, K.In h ∧ He.SaysD fa fn K ∧ cs.all (constB K) = true
  of := fun _ _ e => ⟨_, He.frG_in, congrArg (fun z : AlE => z.1) e, congrArg (fun z : AlE => z.2) e⟩
  keeps := fun _ _ _ ⟨K, hK, c⟩ k => ⟨K, PySem.W.Frag.In.keeps hK k, c⟩
theorem obsE_eq {n : Nat} {fa : List He.Fa} {fn : List He.DefD} {cs : List (Str × D)} {g : Addr → Option Obj} {s : Shared} (h : ∀ a, g a = s.heap.get? a) : obsE n fa fn cs g = (hookE n fa fn cs).obs s := by
  have e : g = s.heap.get? := funext h
  rw [e] <;> rfl
def defOf (e : En) : He.DefD := ⟨(e.x, none), e.x, e.x, defArgs e.st, defBody e.st, defScope e.st, [], []⟩
def factsOf (ens : List En) : List He.Fa := ens.map (fun e => .glo e.x) ++ bNames.map fun n => .free (Str.ofString n)
theorem stage_of {P : Program} {w : World} {K : PySem.W.Frag} {mg : Str → Option Value} {Γ : Gam} {T : Nat → Option Fn} {ens : List En} {h : Heap} (X : K.In h) (G : h.Ns mainGlobals mg) (c : He.SaysD (factsOf ens) (ens.map defOf) K) (cc : Γ.consts.all (constB K) = true)
    (hd : ∀ x f n, (x, f, n) ∈ Γ.defs → ∃ e ∈ ens, e.x = x ∧ e.id = f ∧ e.ps.length = n) (hok : ∀ e ∈ ens, enOk Γ T e = true ∧ T e.id = some e.fn) (hb : ∀ e ∈ ens, BindsOk e) : Stage P w K mg Γ T ens where
  bl := fun n hn => He.free_ok X G (He.SaysD.facts c (List.mem_append_right _ (List.mem_map_of_mem hn)))
  cs := fun x d hm => by
    have hc := List.all_eq_true.mp cc (x, d) hm
    unfold constB at hc
    split at hc <;> try (cases hc; done)
    rename_i u q
    obtain ⟨v, r, dd⟩ := datB_ok d u hc
    exact ⟨v, u, PySem.W.mg_of X G q, r, dd⟩
  df := hd
  en := fun e he => by
    obtain ⟨fd, F⟩ := He.SaysD.defs c (d := defOf e) (List.mem_map_of_mem he)
    exact ⟨_, fd, He.glo_ok X G (He.SaysD.facts c (List.mem_append_left _ (List.mem_map_of_mem (f := fun e => He.Fa.glo e.x) he))), F, F.bindsN (hb e he)⟩
  ok := hok
theorem wd_start {K : PySem.W.Frag} {H : Hp} : Wd K 0 H [] [] H where
  sub := .refl _
  len := rfl
  nd := List.nodup_nil
  out := fun n a b h => by simp at h
  there := fun a h => by simp at h
  box := fun n a b h => by simp at h
  old := fun n b h => by omega
  le := Nat.le_refl _
theorem dats_ints {K : PySem.W.Frag} {F : Hp} : ∀ ns : List Int, Dats K F [] (ns.map V.int) (ns.map D.int)
  | [] => .nil
  | n :: ns => .cons (.int n) (dats_ints ns)
/-- the law's answer by the evaluator -/
theorem law_sp {K : PySem.W.Frag} {call : Nat → List D → M D} {f : Nat} (H : Hp) (a : Addr) (ns : List Int) (hS : SqL K H a (ns.map V.int)) {st' : Store} (h : call f [.ro (ns.map .int)] [] = some (.bl true, st')) :
    spEv K call f 1 [.ref a] H (fun v _ => v = .bl true) fun _ _ _ => False :=
  ⟨H, [], [], [.ro (ns.map .int)], .bl true, st', rfl, wd_start, .cons (.ro hS (dats_ints ns)) .nil, h, fun v F' sa' H' _ _ q => by cases q; rfl⟩
end Ev

namespace Ev
open PySem
def s_other : Str := ⟨#[111, 116, 104, 101, 114]⟩
def s_same : Str := ⟨#[115, 97, 109, 101]⟩
def s_up : Str := ⟨#[117, 112]⟩
def s_moves : Str := ⟨#[109, 111, 118, 101, 115]⟩
def s_none : Str := ⟨#[110, 111, 110, 101]⟩
def s_open : Str := ⟨#[111, 112, 101, 110]⟩
def s_dead : Str := ⟨#[100, 101, 97, 100]⟩
def s_hits : Str := ⟨#[104, 105, 116, 115]⟩
def s_turned : Str := ⟨#[116, 117, 114, 110, 101, 100]⟩
theorem q_other_same : (s_other == s_same) = false := by decide +kernel
theorem q_other_up : (s_other == s_up) = false := by decide +kernel
theorem q_same_other : (s_same == s_other) = false := by decide +kernel
theorem q_same_up : (s_same == s_up) = false := by decide +kernel
theorem q_up_other : (s_up == s_other) = false := by decide +kernel
theorem q_up_same : (s_up == s_same) = false := by decide +kernel
theorem q_moves_none : (s_moves == s_none) = false := by decide +kernel
theorem q_moves_open : (s_moves == s_open) = false := by decide +kernel
theorem q_none_moves : (s_none == s_moves) = false := by decide +kernel
theorem q_none_open : (s_none == s_open) = false := by decide +kernel
theorem q_open_moves : (s_open == s_moves) = false := by decide +kernel
theorem q_open_none : (s_open == s_none) = false := by decide +kernel
theorem k_other : strOkE s_other = true := by decide +kernel
theorem k_same : strOkE s_same = true := by decide +kernel
theorem k_up : strOkE s_up = true := by decide +kernel
theorem k_moves : strOkE s_moves = true := by decide +kernel
theorem k_none : strOkE s_none = true := by decide +kernel
theorem k_open : strOkE s_open = true := by decide +kernel
theorem k_dead : strOkE s_dead = true := by decide +kernel
theorem k_hits : strOkE s_hits = true := by decide +kernel
theorem k_turned : strOkE s_turned = true := by decide +kernel
inductive Rs where
  | other | same | up
inductive Wy where
  | moves | none | opn
def Rs.s : Rs → Str
  | .other => s_other | .same => s_same | .up => s_up
def Wy.s : Wy → Str
  | .moves => s_moves | .none => s_none | .opn => s_open
structure Plan where
  lift : Int
  r : Rs
  eye : Bool
  clock : Int
  w : Wy
  mem : Bool
structure Stand where
  h : Int
  m : Int
  l : Int
  t : Int
  deriving DecidableEq
structure Choice where
  press : Bool
  stands : Bool
  cut : Bool
/-- the program, the plan, the stand, the choice as data -/
def Plan.pd (p : Plan) : D := .tup [.str p.r.s, .bl p.eye, .int p.clock, .str p.w.s, .bl p.mem]
def Plan.d (p : Plan) : D := .tup [.int p.lift, p.pd]
def Stand.d (s : Stand) : D := .tup [.int s.h, .int s.m, .int s.l, .int s.t]
def Choice.d (c : Choice) : D := .tup [.bl c.press, .bl c.stands, .bl c.cut]
def Plan.Ok (p : Plan) : Prop := 1 ≤ p.lift ∧ p.lift ≤ 3 ∧ 0 ≤ p.clock ∧ p.clock ≤ 3
def words (ws : List Str) : D := .lst (ws.map .str)

def stop (r : Rs) (m : Int) : Int := match r with
  | .other => -m
  | .same => m
  | .up => 1
def cutOff (p : Plan) (s : Stand) : Stand := ⟨s.h, 0, if p.mem then (if s.m = 0 then s.l else stop p.r s.m) else 1, 0⟩
def ordered (p : Plan) (s : Stand) (press : Bool) : Int × Int × Int :=
  if press then (if s.m = 0 then (s.l, 0, 0) else (0, stop p.r s.m, 0))
  else if s.m = 0 ∧ s.h = p.lift ∧ 0 < p.clock then (if s.t + 1 = p.clock then (-1, 0, 0) else (0, s.l, s.t + 1))
  else (s.m, s.l, s.t)
def clip (lift x : Int) : Int := if (if x < lift then x else lift) > 0 then (if x < lift then x else lift) else 0
def opt (b : Bool) (x : Str) : List Str := if b then [x] else []
/-- a tick, as the program has it: what is ordered, moves after the eye -/
def move (p : Plan) (s : Stand) (m l t : Int) (press turned stands : Bool) : Stand × List Str :=
  let there := clip p.lift (s.h + m)
  let ws := opt (press && decide (s.m = 0) && !turned && decide (there = s.h)) s_dead ++ opt (decide (there = 0) && decide (s.h = 1) && stands) s_hits ++ opt turned s_turned
  if m = 0 then (⟨there, 0, l, t⟩, ws)
  else if 0 < there ∧ there < p.lift then (⟨there, m, 0, 0⟩, ws)
  else (⟨there, 0, if there = p.lift then -1 else 1, 0⟩, ws)
def passed (p : Plan) (s : Stand) (c : Choice) : Stand × List Str :=
  if c.cut then (cutOff p s, []) else
  let o := ordered p s c.press
  let turned := decide (o.1 < 0) && (c.stands && p.eye)
  move p s (if turned then 1 else o.1) o.2.1 o.2.2 c.press turned c.stands
def lit (p : Plan) (s : Stand) : Bool := match p.w with
  | .moves => !decide (s.m = 0)
  | .none => false
  | .opn => decide (s.h > 0)

def lawMove (p : Plan) (s : Stand) (m l t : Int) (ws : List Str) (starts somebody : Bool) : Stand × List Str :=
  if m = 0 then (⟨s.h, 0, l, t⟩, ws) else
  let out := decide (s.h + m < 0) || decide (s.h + m > p.lift)
  let there := if out then s.h else s.h + m
  let ws := if out then ws ++ opt starts s_dead else ws
  let ws := if there = 0 ∧ s.h = 1 ∧ somebody then ws ++ [s_hits] else ws
  if there = p.lift then (⟨there, 0, -1, 0⟩, ws) else
  if there = 0 then (⟨there, 0, 1, 0⟩, ws) else (⟨there, m, 0, 0⟩, ws)
def lawEye (p : Plan) (s : Stand) (m l t : Int) (starts somebody : Bool) : Stand × List Str :=
  if m = -1 ∧ somebody ∧ p.eye then lawMove p s 1 l t [s_turned] false somebody else lawMove p s m l t [] starts somebody
def tick (p : Plan) (s : Stand) (c : Choice) : Stand × List Str :=
  if c.cut then (⟨s.h, 0, if p.mem then (if s.m = 0 then s.l else stop p.r s.m) else 1, 0⟩, []) else
  if c.press ∧ ¬ s.m = 0 then (⟨s.h, 0, stop p.r s.m, 0⟩, []) else
  if c.press then lawEye p s s.l 0 0 true c.stands else
  if s.m = 0 ∧ s.h = p.lift ∧ 0 < p.clock then (if s.t + 1 = p.clock then lawEye p s (-1) 0 0 false c.stands else lawEye p s s.m s.l (s.t + 1) false c.stands)
  else lawEye p s s.m s.l s.t false c.stands
/-- a stand that fits the plan -/
def Fits (p : Plan) (s : Stand) : Prop := 0 ≤ s.h ∧ s.h ≤ p.lift ∧ -1 ≤ s.m ∧ s.m ≤ 1 ∧
  if s.m = 0 then -1 ≤ s.l ∧ s.l ≤ 1 ∧ s.l ≠ 0 ∧ 0 ≤ s.t ∧ s.t ≤ (if s.h = p.lift then (if p.clock - 1 > 0 then p.clock - 1 else 0) else 0)
  else 0 < s.h ∧ s.h < p.lift ∧ s.l = 0 ∧ s.t = 0
def fin (n : Nat) (r : Fl × Store) : Option (D × Store) := match r.1 with
  | .rt d => retv n d r.2
  | .nx _ => some (.non, r.2.take n)
  | .bk _ => none
theorem call_eq {T : Nat → Option Fn} {fuel k f : Nat} {fn : Fn} {ds : List D} {st : Store} (h : T f = some fn) (hl : ds.length = fn.np) :
    evCall T fuel (k + 1) f ds st = (evSs ⟨evCall T fuel k, st.length, fuel⟩ fn.body (ds.map some ++ List.replicate (fn.ns - fn.np) none) st).bind (fin st.length) := by
  simp only [evCall, h, Option.bind_some, hl, if_true]
  rfl
theorem fin_bl {n : Nat} {b : Bool} {st : Store} : fin n (.rt (.bl b), st) = some (.bl b, st.take n) := rfl
theorem fin_int {n : Nat} {i : Int} {st : Store} : fin n (.rt (.int i), st) = some (.int i, st.take n) := rfl
theorem fin_tup {n : Nat} {ds : List D} {st : Store} : fin n (.rt (.tup ds), st) = if D.unders n ds = true then some (.tup ds, st.take n) else none := rfl
theorem fin_lst {n : Nat} {ds : List D} {st : Store} : fin n (.rt (.lst ds), st) = if D.unders n ds = true then some (.lst ds, st.take n) else none := rfl
theorem fin_nx {n : Nat} {ρ : Env} {st : Store} : fin n (.nx ρ, st) = some (.non, st.take n) := rfl
end Ev

namespace Ev
open PySem
section
variable (c : Ctx) (ρ : Env)
def kTup (r : List D × Store) : Option (D × Store) := if r.1.length ≤ LIM then some (.tup r.1, r.2) else none
def kLst (b : Bool) (r : List D × Store) : Option (D × Store) := if r.1.length ≤ LIM then new b (.lst r.1) r.2 else none
def kDct1 (b t : Bool) (st : Store) (q : List D × List D) : Option (D × Store) := new b (.dct t q.1 q.2) st
def kDct (b t : Bool) (r : List (D × D) × Store) : Option (D × Store) := (dmake t r.1 ([], [])).bind (kDct1 b t r.2)
def kFn (st : Store) (d : D) : D × Store := (d, st)
def kBin2 (op : Op) (x : D) (q : D × Store) : Option (D × Store) := (binD op (rd q.2 x) (rd q.2 q.1)).map (kFn q.2)
def kBin (op : Op) (b : E) (r : D × Store) : Option (D × Store) := (evE c b ρ r.2).bind (kBin2 op r.1)
def kNeg (r : D × Store) : Option (D × Store) := match r.1 with
  | .int i => some (.int (-i), r.2)
  | _ => none
def kNot (r : D × Store) : Option (D × Store) := match isBl r.1 with
  | some b => some (.bl (!b), r.2)
  | none => none
def kAnd (b : E) (r : D × Store) : Option (D × Store) := match isBl r.1 with
  | some k => if k then evE c b ρ r.2 else some (.bl false, r.2)
  | none => none
def kOr (b : E) (r : D × Store) : Option (D × Store) := match isBl r.1 with
  | some k => if k then some (.bl true, r.2) else evE c b ρ r.2
  | none => none
def kIte (a b : E) (r : D × Store) : Option (D × Store) := match isBl r.1 with
  | some k => if k then evE c a ρ r.2 else evE c b ρ r.2
  | none => none
def kBl (st : Store) (k : Bool) : D × Store := (.bl k, st)
def kCmp2 (op : Cm) (x : D) (q : D × Store) : Option (D × Store) := (cmpD op (rd q.2 x) (rd q.2 q.1)).map (kBl q.2)
def kCmp (op : Cm) (b : E) (r : D × Store) : Option (D × Store) := (evE c b ρ r.2).bind (kCmp2 op r.1)
def kCh3 (op' : Cm) (y : D) (s : D × Store) : Option (D × Store) := (cmpD op' (rd s.2 y) (rd s.2 s.1)).map (kBl s.2)
def kCh2 (op' : Cm) (y : D) (e : E) (st : Store) (k : Bool) : Option (D × Store) := if k then (evE c e ρ st).bind (kCh3 op' y) else some (.bl false, st)
def kCh1 (op op' : Cm) (x : D) (e : E) (q : D × Store) : Option (D × Store) := (cmpD op (rd q.2 x) (rd q.2 q.1)).bind (kCh2 c ρ op' q.1 e q.2)
def kCh (op op' : Cm) (b e : E) (r : D × Store) : Option (D × Store) := (evE c b ρ r.2).bind (kCh1 c ρ op op' r.1 e)
def kCall (f : Nat) (r : List D × Store) : Option (D × Store) := c.call f r.1 r.2
def kPrim (p : P) (r : List D × Store) : Option (D × Store) := (primD p (r.1.map (rdR r.2))).map (kFn r.2)
def kNew (st : Store) (d : D) : Option (D × Store) := new true d st
def kPrimB (p : P) (r : List D × Store) : Option (D × Store) := (primD p (r.1.map (rdR r.2))).bind (kNew r.2)
def kSub2 (x : D) (q : D × Store) : Option (D × Store) := (subD (rdR q.2 x) q.1).map (kFn q.2)
def kSub (i : E) (r : D × Store) : Option (D × Store) := (evE c i ρ r.2).bind (kSub2 r.1)
def kDsub2 (x : D) (q : D × Store) : Option (D × Store) := (dsubD (rd q.2 x) q.1).map (kFn q.2)
def kDsub (i : E) (r : D × Store) : Option (D × Store) := (evE c i ρ r.2).bind (kDsub2 r.1)
def kApp2 (o : D) (q : D × Store) : Option (D × Store) := appendD c.base o q.1 q.2
def kApp (e : E) (r : D × Store) : Option (D × Store) := if isLB r.1 r.2 then (evE c e ρ r.2).bind (kApp2 c r.1) else none
def kGet3 (o k : D) (s : D × Store) : Option (D × Store) := (getD2 (rd s.2 o) k s.1).map (kFn s.2)
def kGet2 (o : D) (x : E) (q : D × Store) : Option (D × Store) := (evE c x ρ q.2).bind (kGet3 o q.1)
def kGet (k x : E) (r : D × Store) : Option (D × Store) := if isDct (rd r.2 r.1) then (evE c k ρ r.2).bind (kGet2 c ρ r.1 x) else none
def kFrz (r : D × Store) : Option (D × Store) := frzD c.base r.1 r.2
def kCons (d : D) (q : List D × Store) : List D × Store := (d :: q.1, q.2)
def kEs (es : List E) (r : D × Store) : Option (List D × Store) := (evEs c es ρ r.2).map (kCons r.1)
def kPs2 (k v : D) (q : List (D × D) × Store) : List (D × D) × Store := ((k, v) :: q.1, q.2)
def kPs1 (kvs : KVs) (k : D) (q : D × Store) : Option (List (D × D) × Store) := (evPs c kvs ρ q.2).map (kPs2 k q.1)
def kPs (v : E) (kvs : KVs) (r : D × Store) : Option (List (D × D) × Store) := (evE c v ρ r.2).bind (kPs1 c ρ kvs r.1)
def kO (r : D × Store) : Option (Option Int × Store) := match r.1 with
  | .int i => some (some i, r.2)
  | _ => none
def kG (r : D × Store) : Option (Bool × Store) := match isBl r.1 with
  | some b => some (b, r.2)
  | none => none
def kCut (st : Store) (x : D) (lo hi : Option Int) : Option (D × Store) := match rd st x with
    | .lst ds => some (.lst (cutD ds lo hi), st)
    | .tup ds => some (.tup (cutD ds lo hi), st)
    | _ => none
def kCut2 (x : D) (lo : Option Int) (h : Option Int × Store) : Option (D × Store) := kCut h.2 x lo h.1
def kCut1 (hi : Option E) (x : D) (l : Option Int × Store) : Option (D × Store) := (evO c hi ρ l.2).bind (kCut2 x l.1)
def kCut0 (lo hi : Option E) (r : D × Store) : Option (D × Store) := (evO c lo ρ r.2).bind (kCut1 c ρ hi r.1)
def kStep3 (acc : List D) (q : D × Store) : Option (List D × Store) := if acc.length < LIM then some (acc ++ [q.1], q.2) else none
def kStep2 (e : E) (ρ' : Env) (acc : List D) (k : Bool × Store) : Option (List D × Store) := if k.1 then (evE c e ρ' k.2).bind (kStep3 acc) else some (acc, k.2)
def kStep1 (e : E) (g : Option E) (acc : List D) (st : Store) (ρ' : Env) : Option (List D × Store) := (evG c g ρ' st).bind (kStep2 c e ρ' acc)
def cStep (own : List Nat) (e : E) (t : T) (g : Option E) (d : D) (acc : List D) (st : Store) : Option (List D × Store) := (bindT t d (wipeE ρ own)).bind (kStep1 c e g acc st)
def kComp2 (q : List D × Store) : D × Store := (.lst q.1, q.2)
def kComp (own : List Nat) (e : E) (t : T) (g : Option E) (w : (List D × Option Nat) × Store) : Option (D × Store) := match w.1.2 with
    | none => (walkL (cStep c ρ own e t g) w.1.1 [] w.2).map kComp2
    | some _ => none
def kIn (st : Store) (ds : List D) : (List D × Option Nat) × Store := ((ds, none), st)
def kSeq (r : D × Store) : Option ((List D × Option Nat) × Store) := (seqD r.1).map (kIn r.2)
def kRng1 (r : D × Store) : Option ((List D × Option Nat) × Store) := match r.1 with
    | .int j => (rngD 0 j).map (kIn r.2)
    | _ => none
def kRng2b (x : D) (q : D × Store) : Option ((List D × Option Nat) × Store) := match x, q.1 with
    | .int i, .int j => (rngD i j).map (kIn q.2)
    | _, _ => none
def kRng2 (b : E) (r : D × Store) : Option ((List D × Option Nat) × Store) := (evE c b ρ r.2).bind (kRng2b r.1)
def kZip2 (x : D) (q : D × Store) : Option ((List D × Option Nat) × Store) := (zipD x q.1).map (kIn q.2)
def kZip (b : E) (r : D × Store) : Option ((List D × Option Nat) × Store) := (evE c b ρ r.2).bind (kZip2 r.1)
def kNx (st : Store) (ρ' : Env) : Fl × Store := (.nx ρ', st)
def kAsg (t : T) (r : D × Store) : Option (Fl × Store) := (bindT t r.1 ρ).map (kNx r.2)
def kSt (st' : Store) : Fl × Store := (.nx ρ, st')
def kSet3 (x o : D) (s : D × Store) : Option (Fl × Store) := (setL c.base o s.1 x s.2).map (kSt ρ)
def kSet2 (x : D) (i : E) (q : D × Store) : Option (Fl × Store) := (evE c i ρ q.2).bind (kSet3 c ρ x q.1)
def kSet (o i : E) (r : D × Store) : Option (Fl × Store) := (evE c o ρ r.2).bind (kSet2 c ρ r.1 i)
def kExpr (r : D × Store) : Fl × Store := (.nx ρ, r.2)
def kRet (r : D × Store) : Fl × Store := (.rt r.1, r.2)
def kIf (a b : List S) (r : Bool × Store) : Option (Fl × Store) := if r.1 then evSs c a ρ r.2 else evSs c b ρ r.2
def kSs (ss : List S) (r : Fl × Store) : Option (Fl × Store) := match r.1 with
    | .nx ρ' => evSs c ss ρ' r.2
    | .rt d => some (.rt d, r.2)
    | .bk ρ' => some (.bk ρ', r.2)
def kFor1 (b : List S) (st : Store) (ρ' : Env) : Option (Fl × Store) := evSs c b ρ' st
def fStep (t : T) (b : List S) (d : D) (ρ : Env) (st : Store) : Option (Fl × Store) := (bindT t d ρ).bind (kFor1 c b st)
def kFor (t : T) (b : List S) (w : (List D × Option Nat) × Store) : Option (Fl × Store) := match w.1.2 with
    | none => walkF (fStep c t b) w.1.1 ρ w.2
    | some _ => none
def kWalkF (step : D → Env → M Fl) (ds : List D) (r : Fl × Store) : Option (Fl × Store) := match r.1 with
    | .nx ρ' => walkF step ds ρ' r.2
    | .rt d => some (.rt d, r.2)
    | .bk ρ' => some (.nx ρ', r.2)
def kWalkL {α : Type} (step : D → α → M α) (ds : List D) (r : α × Store) : Option (α × Store) := walkL step ds r.1 r.2
end
section
variable {c : Ctx} {ρ : Env} {st : Store} {a b e o k v x : E} {es : List E} {d x' y' : D} {ds : List D}
theorem r_var {i : Nat} : evE c (.var i) ρ st = match ρ[i]? with
    | some (some d) => some (d, st)
    | _ => none := by
  rw [evE]
  all_goals (show (match ρ[i]? with | some (some d) => some (d, st) | _ => none) = _; rcases ρ[i]? with _ | (_ | _) <;> rfl)
theorem r_glob {y : Str} : evE c (.glob y d) ρ st = some (d, st) := by rw [evE]
theorem r_int {i : Int} : evE c (.int i) ρ st = some (.int i, st) := by rw [evE]
theorem r_bl {i : Bool} : evE c (.bl i) ρ st = some (.bl i, st) := by rw [evE]
theorem r_non : evE c .non ρ st = some (.non, st) := by rw [evE]
theorem r_str {i : Str} : evE c (.str i) ρ st = some (.str i, st) := by rw [evE]
theorem r_tup : evE c (.tup es) ρ st = (evEs c es ρ st).bind kTup := by rw [evE]; rfl
theorem r_tup1 : kTup (ds, st) = if ds.length ≤ LIM then some (.tup ds, st) else none := rfl
theorem r_lst {f : Bool} : evE c (.lst f es) ρ st = (evEs c es ρ st).bind (kLst f) := by rw [evE]; rfl
theorem r_lst0 : kLst false (ds, st) = if ds.length ≤ LIM then some (.lst ds, st) else none := rfl
theorem r_lst1 : kLst true (ds, st) = if ds.length ≤ LIM then some (.box st.length, st ++ [.lst ds]) else none := rfl
theorem r_dct {f t : Bool} {kvs : KVs} : evE c (.dct f t kvs) ρ st = (evPs c kvs ρ st).bind (kDct f t) := by rw [evE]; rfl
theorem r_dct1 {f t : Bool} {ps : List (D × D)} : kDct f t (ps, st) = (dmake t ps ([], [])).bind (kDct1 f t st) := rfl
theorem r_dct2 {t : Bool} {q : List D × List D} : kDct1 false t st q = some (.dct t q.1 q.2, st) := rfl
theorem r_fn : kFn st d = (d, st) := rfl
theorem r_bin {op : Op} : evE c (.bin op a b) ρ st = (evE c a ρ st).bind (kBin c ρ op b) := by rw [evE]; rfl
theorem r_bin1 {op : Op} : kBin c ρ op b (d, st) = (evE c b ρ st).bind (kBin2 op d) := rfl
theorem r_bin2 {op : Op} : kBin2 op x' (d, st) = (binD op (rd st x') (rd st d)).map (kFn st) := rfl
theorem r_neg : evE c (.neg a) ρ st = (evE c a ρ st).bind kNeg := by rw [evE]; rfl
theorem r_neg1 {i : Int} : kNeg (.int i, st) = some (.int (-i), st) := rfl
theorem bindBl {α : Type} {d : D} {f : Bool → Option α} : (isBl d).bind f = match isBl d with
    | some b => f b
    | none => none := by cases isBl d <;> rfl
theorem mapBl {α : Type} {d : D} {f : Bool → α} : (isBl d).map f = match isBl d with
    | some b => some (f b)
    | none => none := by cases isBl d <;> rfl
theorem r_not : evE c (.not a) ρ st = (evE c a ρ st).bind kNot := by rw [evE]; simp only [mapBl]; rfl
theorem r_not1 {i : Bool} : kNot (.bl i, st) = some (.bl (!i), st) := rfl
theorem r_and : evE c (.and a b) ρ st = (evE c a ρ st).bind (kAnd c ρ b) := by rw [evE]; simp only [bindBl]; rfl
theorem r_and1 {i : Bool} : kAnd c ρ b (.bl i, st) = if i then evE c b ρ st else some (.bl false, st) := rfl
theorem r_or : evE c (.or a b) ρ st = (evE c a ρ st).bind (kOr c ρ b) := by rw [evE]; simp only [bindBl]; rfl
theorem r_or1 {i : Bool} : kOr c ρ b (.bl i, st) = if i then some (.bl true, st) else evE c b ρ st := rfl
theorem r_ite : evE c (.ite e a b) ρ st = (evE c e ρ st).bind (kIte c ρ a b) := by rw [evE]; simp only [bindBl]; rfl
theorem r_ite1 {i : Bool} : kIte c ρ a b (.bl i, st) = if i then evE c a ρ st else evE c b ρ st := rfl
theorem r_kbl {i : Bool} : kBl st i = (.bl i, st) := rfl
theorem r_cmp {op : Cm} : evE c (.cmp op a b) ρ st = (evE c a ρ st).bind (kCmp c ρ op b) := by rw [evE]; rfl
theorem r_cmp1 {op : Cm} : kCmp c ρ op b (d, st) = (evE c b ρ st).bind (kCmp2 op d) := rfl
theorem r_cmp2 {op : Cm} : kCmp2 op x' (d, st) = (cmpD op (rd st x') (rd st d)).map (kBl st) := rfl
theorem r_chain {op op' : Cm} : evE c (.chain op op' a b e) ρ st = (evE c a ρ st).bind (kCh c ρ op op' b e) := by rw [evE]; rfl
theorem r_chain1 {op op' : Cm} : kCh c ρ op op' b e (d, st) = (evE c b ρ st).bind (kCh1 c ρ op op' d e) := rfl
theorem r_chain2 {op op' : Cm} : kCh1 c ρ op op' x' e (d, st) = (cmpD op (rd st x') (rd st d)).bind (kCh2 c ρ op' d e st) := rfl
theorem r_chain3 {op' : Cm} {i : Bool} : kCh2 c ρ op' d e st i = if i then (evE c e ρ st).bind (kCh3 op' d) else some (.bl false, st) := rfl
theorem r_chain4 {op' : Cm} : kCh3 op' x' (d, st) = (cmpD op' (rd st x') (rd st d)).map (kBl st) := rfl
theorem r_call {f : Nat} : evE c (.call f es) ρ st = (evEs c es ρ st).bind (kCall c f) := by rw [evE]; rfl
theorem r_call1 {g : Nat → List D → M D} {bs fu f : Nat} : kCall ⟨g, bs, fu⟩ f (ds, st) = g f ds st := rfl
theorem r_prim {p : P} : evE c (.prim p es) ρ st = (evEs c es ρ st).bind (kPrim p) := by rw [evE]; rfl
theorem r_prim1 {p : P} : kPrim p (ds, st) = (primD p (ds.map (rdR st))).map (kFn st) := rfl
theorem r_primB {p : P} : evE c (.primB p es) ρ st = (evEs c es ρ st).bind (kPrimB p) := by rw [evE]; rfl
theorem r_primB1 {p : P} : kPrimB p (ds, st) = (primD p (ds.map (rdR st))).bind (kNew st) := rfl
theorem r_new : kNew st (.lst ds) = some (.box st.length, st ++ [.lst ds]) := rfl
theorem r_sub : evE c (.sub a b) ρ st = (evE c a ρ st).bind (kSub c ρ b) := by rw [evE]; rfl
theorem r_sub1 : kSub c ρ b (d, st) = (evE c b ρ st).bind (kSub2 d) := rfl
theorem r_sub2 : kSub2 x' (d, st) = (subD (rdR st x') d).map (kFn st) := rfl
theorem r_dsub : evE c (.dsub a b) ρ st = (evE c a ρ st).bind (kDsub c ρ b) := by rw [evE]; rfl
theorem r_dsub1 : kDsub c ρ b (d, st) = (evE c b ρ st).bind (kDsub2 d) := rfl
theorem r_dsub2 : kDsub2 x' (d, st) = (dsubD (rd st x') d).map (kFn st) := rfl
theorem r_app : evE c (.append o e) ρ st = (evE c o ρ st).bind (kApp c ρ e) := by rw [evE]; rfl
theorem r_app1 : kApp c ρ e (d, st) = if isLB d st then (evE c e ρ st).bind (kApp2 c d) else none := rfl
theorem r_app2 {g : Nat → List D → M D} {bs fu : Nat} : kApp2 ⟨g, bs, fu⟩ x' (d, st) = appendD bs x' d st := rfl
theorem r_get : evE c (.get2 o k x) ρ st = (evE c o ρ st).bind (kGet c ρ k x) := by rw [evE]; rfl
theorem r_get1 : kGet c ρ k x (d, st) = if isDct (rd st d) then (evE c k ρ st).bind (kGet2 c ρ d x) else none := rfl
theorem r_get2 : kGet2 c ρ x' x (d, st) = (evE c x ρ st).bind (kGet3 x' d) := rfl
theorem r_get3 : kGet3 x' y' (d, st) = (getD2 (rd st x') y' d).map (kFn st) := rfl
theorem r_frz : evE c (.frz e) ρ st = (evE c e ρ st).bind (kFrz c) := by rw [evE]; rfl
theorem r_frz1 {g : Nat → List D → M D} {bs fu : Nat} : kFrz ⟨g, bs, fu⟩ (d, st) = frzD bs d st := rfl
theorem r_es0 : evEs c [] ρ st = some ([], st) := by rw [evEs]
theorem r_es : evEs c (e :: es) ρ st = (evE c e ρ st).bind (kEs c ρ es) := by rw [evEs]; rfl
theorem r_es1 : kEs c ρ es (d, st) = (evEs c es ρ st).map (kCons d) := rfl
theorem r_es2 : kCons d (ds, st) = (d :: ds, st) := rfl
theorem r_ps0 : evPs c .nil ρ st = some ([], st) := by rw [evPs]
theorem r_ps {kvs : KVs} : evPs c (.cons k v kvs) ρ st = (evE c k ρ st).bind (kPs c ρ v kvs) := by rw [evPs]; rfl
theorem r_ps1 {kvs : KVs} : kPs c ρ v kvs (d, st) = (evE c v ρ st).bind (kPs1 c ρ kvs d) := rfl
theorem r_ps2 {kvs : KVs} : kPs1 c ρ kvs x' (d, st) = (evPs c kvs ρ st).map (kPs2 x' d) := rfl
theorem r_ps3 {ps : List (D × D)} : kPs2 x' d (ps, st) = ((x', d) :: ps, st) := rfl
theorem r_o0 : evO c none ρ st = some (none, st) := by rw [evO]
theorem r_o : evO c (some e) ρ st = (evE c e ρ st).bind kO := by rw [evO]; rfl
theorem r_o1 {i : Int} : kO (.int i, st) = some (some i, st) := rfl
theorem r_g0 : evG c none ρ st = some (true, st) := by rw [evG]
theorem r_g : evG c (some e) ρ st = (evE c e ρ st).bind kG := by rw [evG]; simp only [mapBl]; rfl
theorem r_g1 {i : Bool} : kG (.bl i, st) = some (i, st) := rfl
theorem r_cut {lo hi : Option E} : evE c (.cut a lo hi) ρ st = (evE c a ρ st).bind (kCut0 c ρ lo hi) := by rw [evE]; rfl
theorem r_cut0 {lo hi : Option E} : kCut0 c ρ lo hi (d, st) = (evO c lo ρ st).bind (kCut1 c ρ hi d) := rfl
theorem r_cut1 {hi : Option E} {l : Option Int} : kCut1 c ρ hi d (l, st) = (evO c hi ρ st).bind (kCut2 d l) := rfl
theorem r_cut2 {l h : Option Int} : kCut2 d l (h, st) = kCut st d l h := rfl
theorem r_comp {own : List Nat} {t : T} {it : I} {g : Option E} : evE c (.comp own e t it g) ρ st = (evI c it ρ st).bind (kComp c ρ own e t g) := by rw [evE]; rfl
theorem r_comp1 {own : List Nat} {t : T} {g : Option E} : kComp c ρ own e t g ((ds, none), st) = (walkL (cStep c ρ own e t g) ds [] st).map kComp2 := rfl
theorem r_comp2 : kComp2 (ds, st) = (.lst ds, st) := rfl
theorem r_step {own : List Nat} {t : T} {g : Option E} {acc : List D} : cStep c ρ own e t g d acc st = (bindT t d (wipeE ρ own)).bind (kStep1 c e g acc st) := rfl
theorem r_step1 {g : Option E} {acc : List D} {ρ' : Env} : kStep1 c e g acc st ρ' = (evG c g ρ' st).bind (kStep2 c e ρ' acc) := rfl
theorem r_step2 {acc : List D} {ρ' : Env} {i : Bool} : kStep2 c e ρ' acc (i, st) = if i then (evE c e ρ' st).bind (kStep3 acc) else some (acc, st) := rfl
theorem r_step3 {acc : List D} : kStep3 acc (d, st) = if acc.length < LIM then some (acc ++ [d], st) else none := rfl
theorem r_walkL0 {α : Type} {step : D → α → M α} {u : α} : walkL step [] u st = some (u, st) := rfl
theorem r_walkL {α : Type} {step : D → α → M α} {u : α} : walkL step (d :: ds) u st = (step d u st).bind (kWalkL step ds) := rfl
theorem r_walkL1 {α : Type} {step : D → α → M α} {u : α} : kWalkL step ds (u, st) = walkL step ds u st := rfl
theorem r_seq : evI c (.seq e) ρ st = (evE c e ρ st).bind kSeq := by rw [evI]; rfl
theorem r_seq1 : kSeq (.lst ds, st) = some ((ds, none), st) := rfl
theorem r_seq2 : kSeq (.tup ds, st) = some ((ds, none), st) := rfl
theorem r_rng1 : evI c (.rng1 e) ρ st = (evE c e ρ st).bind kRng1 := by rw [evI]; rfl
theorem r_rng1a {j : Int} : kRng1 (.int j, st) = (rngD 0 j).map (kIn st) := rfl
theorem r_rng2 : evI c (.rng2 a b) ρ st = (evE c a ρ st).bind (kRng2 c ρ b) := by rw [evI]; rfl
theorem r_rng2a : kRng2 c ρ b (d, st) = (evE c b ρ st).bind (kRng2b d) := rfl
theorem r_rng2b {i j : Int} : kRng2b (.int i) (.int j, st) = (rngD i j).map (kIn st) := rfl
theorem r_in : kIn st ds = ((ds, none), st) := rfl
theorem r_zip : evI c (.zip a b) ρ st = (evE c a ρ st).bind (kZip c ρ b) := by rw [evI]; rfl
theorem r_zip1 : kZip c ρ b (d, st) = (evE c b ρ st).bind (kZip2 d) := rfl
theorem r_zip2 : kZip2 x' (d, st) = (zipD x' d).map (kIn st) := rfl
theorem r_c : evC c e ρ st = (evE c e ρ st).bind kG := by unfold evC; simp only [mapBl]; rfl
theorem r_asg {t : T} : evS c (.asg t e) ρ st = (evE c e ρ st).bind (kAsg ρ t) := by rw [evS]; rfl
theorem r_asg1 {t : T} : kAsg ρ t (d, st) = (bindT t d ρ).map (kNx st) := rfl
theorem r_nx {ρ' : Env} : kNx st ρ' = (.nx ρ', st) := rfl
theorem r_set : evS c (.setI o a e) ρ st = (evE c e ρ st).bind (kSet c ρ o a) := by rw [evS]; rfl
theorem r_set1 : kSet c ρ o a (d, st) = (evE c o ρ st).bind (kSet2 c ρ d a) := rfl
theorem r_set2 : kSet2 c ρ x' a (d, st) = (evE c a ρ st).bind (kSet3 c ρ x' d) := rfl
theorem r_set3 {g : Nat → List D → M D} {bs fu : Nat} : kSet3 ⟨g, bs, fu⟩ ρ x' y' (d, st) = (setL bs y' d x' st).map (kSt ρ) := rfl
theorem r_st : kSt ρ st = (.nx ρ, st) := rfl
theorem r_expr : evS c (.expr e) ρ st = (evE c e ρ st).map (kExpr ρ) := by rw [evS]; rfl
theorem r_expr1 : kExpr ρ (d, st) = (.nx ρ, st) := rfl
theorem r_ret : evS c (.ret e) ρ st = (evE c e ρ st).map kRet := by rw [evS]; rfl
theorem r_ret1 : kRet (d, st) = (.rt d, st) := rfl
theorem r_if {p q : List S} : evS c (.ite e p q) ρ st = (evC c e ρ st).bind (kIf c ρ p q) := by rw [evS]; rfl
theorem r_if1 {p q : List S} {i : Bool} : kIf c ρ p q (i, st) = if i then evSs c p ρ st else evSs c q ρ st := rfl
theorem r_pass : evS c .pass ρ st = some (.nx ρ, st) := by rw [evS]
theorem r_ss0 : evSs c [] ρ st = some (.nx ρ, st) := by rw [evSs]
theorem r_ss {s : S} {ss : List S} : evSs c (s :: ss) ρ st = (evS c s ρ st).bind (kSs c ss) := by
  rw [evSs]
  show (evS c s ρ st).bind _ = (evS c s ρ st).bind _
  congr 1
  funext r
  obtain ⟨f, st'⟩ := r
  cases f <;> rfl
theorem r_ss1 {ss : List S} : kSs c ss (.nx ρ, st) = evSs c ss ρ st := rfl
theorem r_ss2 {ss : List S} : kSs c ss (.rt d, st) = some (.rt d, st) := rfl
theorem r_for {t : T} {it : I} {p : List S} : evS c (.for_ t it p) ρ st = (evI c it ρ st).bind (kFor c ρ t p) := by rw [evS]; rfl
theorem r_for1 {t : T} {p : List S} : kFor c ρ t p ((ds, none), st) = walkF (fStep c t p) ds ρ st := rfl
theorem r_fstep {t : T} {p : List S} : fStep c t p d ρ st = (bindT t d ρ).bind (kFor1 c p st) := rfl
theorem r_for2 {p : List S} : kFor1 c p st ρ = evSs c p ρ st := rfl
theorem r_walkF0 {step : D → Env → M Fl} : walkF step [] ρ st = some (.nx ρ, st) := rfl
theorem r_walkF {step : D → Env → M Fl} : walkF step (d :: ds) ρ st = (step d ρ st).bind (kWalkF step ds) := rfl
theorem r_walkF1 {step : D → Env → M Fl} : kWalkF step ds (.nx ρ, st) = walkF step ds ρ st := rfl
theorem r_walkF2 {step : D → Env → M Fl} : kWalkF step ds (.rt d, st) = some (.rt d, st) := rfl
theorem v_rd_int {i : Int} : rd st (.int i) = .int i := rfl
theorem v_rd_bl {i : Bool} : rd st (.bl i) = .bl i := rfl
theorem v_rd_str {i : Str} : rd st (.str i) = .str i := rfl
theorem v_rd_non : rd st .non = .non := rfl
theorem v_rd_tup : rd st (.tup ds) = .tup ds := rfl
theorem v_rd_lst : rd st (.lst ds) = .lst ds := rfl
theorem v_rd_dct {t : Bool} {ks vs : List D} : rd st (.dct t ks vs) = .dct t ks vs := rfl
theorem v_rR_int {i : Int} : rdR st (.int i) = .int i := rfl
theorem v_rR_bl {i : Bool} : rdR st (.bl i) = .bl i := rfl
theorem v_rR_str {i : Str} : rdR st (.str i) = .str i := rfl
theorem v_rR_non : rdR st .non = .non := rfl
theorem v_rR_tup : rdR st (.tup ds) = .tup ds := rfl
theorem v_rR_lst : rdR st (.lst ds) = .lst ds := rfl
theorem v_rR_dct {t : Bool} {ks vs : List D} : rdR st (.dct t ks vs) = .dct t ks vs := rfl
theorem v_rR_ro : rdR st (.ro ds) = .lst ds := rfl
theorem v_rR_box {n : Nat} : rdR st (.box n) = rd st (.box n) := rfl
theorem v_ite_bl {P : Prop} [Decidable P] {i j : Bool} : (if P then some (D.bl i, st) else some (D.bl j, st)) = some (D.bl (if P then i else j), st) := by split <;> rfl
theorem v_ite_int {P : Prop} [Decidable P] {i j : Int} : (if P then some (D.int i, st) else some (D.int j, st)) = some (D.int (if P then i else j), st) := by split <;> rfl

theorem v_and {i j : Bool} : (if i = true then some (D.bl j, st) else some (D.bl false, st)) = some (D.bl (i && j), st) := by cases i <;> rfl
theorem v_or {i j : Bool} : (if i = true then some (D.bl true, st) else some (D.bl j, st)) = some (D.bl (i || j), st) := by cases i <;> rfl
theorem a_0 {w0 : D} : atD (w0 :: ds) 0 = some w0 := by simp [atD] <;> omega
theorem a_1 {w0 w1 : D} : atD (w0 :: w1 :: ds) 1 = some w1 := by simp [atD] <;> omega
theorem a_2 {w0 w1 w2 : D} : atD (w0 :: w1 :: w2 :: ds) 2 = some w2 := by simp [atD] <;> omega
theorem a_3 {w0 w1 w2 w3 : D} : atD (w0 :: w1 :: w2 :: w3 :: ds) 3 = some w3 := by simp [atD] <;> omega
theorem a_4 {w0 w1 w2 w3 w4 : D} : atD (w0 :: w1 :: w2 :: w3 :: w4 :: ds) 4 = some w4 := by simp [atD] <;> omega
theorem p_int {b : Bool} : primD .int [.bl b] = some (.int (if b then 1 else 0)) := rfl
theorem p_inti {i : Int} : primD .int [.int i] = some (.int i) := rfl
theorem p_lenl : primD .len [.lst ds] = some (.int ds.length) := rfl
theorem p_lent : primD .len [.tup ds] = some (.int ds.length) := rfl
theorem p_max {i j : Int} : primD .max2 [.int i, .int j] = some (.int (if j > i then j else i)) := rfl
theorem p_min {i j : Int} : primD .min2 [.int i, .int j] = some (.int (if j < i then j else i)) := rfl
theorem p_abs {i : Int} : primD .abs [.int i] = some (.int (if i < 0 then -i else i)) := rfl
theorem p_isint {ts : List Ty} : primD (.isin ts) [.tup ds] = some (.bl (ts.any (isTy (.tup ds)))) := rfl
theorem p_isinl {ts : List Ty} : primD (.isin ts) [.lst ds] = some (.bl (ts.any (isTy (.lst ds)))) := rfl
theorem p_isini {ts : List Ty} {i : Int} : primD (.isin ts) [.int i] = some (.bl (ts.any (isTy (.int i)))) := rfl
theorem p_isinb {ts : List Ty} {i : Bool} : primD (.isin ts) [.bl i] = some (.bl (ts.any (isTy (.bl i)))) := rfl
theorem p_isins {ts : List Ty} {i : Str} : primD (.isin ts) [.str i] = some (.bl (ts.any (isTy (.str i)))) := rfl
theorem p_isinn {ts : List Ty} : primD (.isin ts) [.non] = some (.bl (ts.any (isTy .non))) := rfl
theorem c_isn : cmpD .is_ .non .non = some true := rfl
theorem c_isb {i : Bool} : cmpD .is_ (.bl i) .non = some false := rfl
theorem c_isi {i : Int} : cmpD .is_ (.int i) .non = some false := rfl
theorem c_iss {i : Str} : cmpD .is_ (.str i) .non = some false := rfl
theorem c_ist : cmpD .is_ (.tup ds) .non = some false := rfl
theorem c_isl : cmpD .is_ (.lst ds) .non = some false := rfl
theorem c_inl {i : D} : cmpD .isin i (.lst ds) = inD i (.lst ds) := rfl
theorem c_int {i : D} : cmpD .isin i (.tup ds) = inD i (.tup ds) := rfl
theorem v_un_w {n : Nat} {ws : List Str} : D.under n (words ws) = true := by
  show D.unders n (ws.map .str) = true
  induction ws with
  | nil => rfl
  | cons w ws ih => simp only [List.map_cons, D.unders, D.under, ih, Bool.and_true]
theorem p_all3 {i j l : Bool} : primD .all [.lst [.bl i, .bl j, .bl l]] = some (.bl (i && (j && l))) := by cases i <;> cases j <;> cases l <;> rfl
theorem f_sd {n : Nat} {s : Stand} : fin n (.rt s.d, st) = some (s.d, st.take n) := rfl
theorem f_w {n : Nat} {ws : List Str} : fin n (.rt (words ws), st) = some (words ws, st.take n) := by
  show (if D.under n (words ws) = true then _ else _) = _
  rw [v_un_w]; rfl
theorem b_add {i j : Int} : binD .add (.int i) (.int j) = some (.int (i + j)) := rfl
theorem b_sub {i j : Int} : binD .sub (.int i) (.int j) = some (.int (i - j)) := rfl
theorem b_mul {w0 : Str} {b : Bool} : binD .mul (.lst [.str w0]) (.int (if b = true then 1 else 0)) = some (words (opt b w0)) := by cases b <;> rfl
theorem b_mul0 {w0 : Str} : binD .mul (.lst [.str w0]) (.int 0) = some (words (opt false w0)) := rfl
theorem b_mul1 {w0 : Str} : binD .mul (.lst [.str w0]) (.int 1) = some (words (opt true w0)) := rfl
theorem b_w2 {a b : Bool} {w0 w1 : Str} : binD .add (words (opt a w0)) (words (opt b w1)) = some (words (opt a w0 ++ opt b w1)) := by cases a <;> cases b <;> rfl
theorem b_w3 {a b e : Bool} {w0 w1 w2 : Str} : binD .add (words (opt a w0 ++ opt b w1)) (words (opt e w2)) = some (words (opt a w0 ++ opt b w1 ++ opt e w2)) := by cases a <;> cases b <;> cases e <;> rfl
theorem v_rd_w {ws : List Str} : rd st (words ws) = words ws := rfl
theorem b_wg {ws : List Str} {b : Bool} {w0 : Str} (h : ws.length ≤ 8) : binD .add (words ws) (words (opt b w0)) = some (words (ws ++ opt b w0)) := by
  have e : (ws.map D.str).length + ((opt b w0).map D.str).length ≤ LIM := by cases b <;> simp [opt, LIM] <;> omega
  show (if _ then some (D.lst (ws.map D.str ++ (opt b w0).map D.str)) else none) = _
  rw [if_pos e, ← List.map_append]; rfl
theorem b_w1 {ws : List Str} {w0 : Str} (h : ws.length ≤ 8) : binD .add (words ws) (.lst [.str w0]) = some (words (ws ++ [w0])) := b_wg (b := true) h
theorem w_0 : words [] = D.lst [] := rfl
theorem c_eqi {i j : Int} : cmpD .eq (.int i) (.int j) = some (decide (i = j)) := rfl
theorem c_nei {i j : Int} : cmpD .ne (.int i) (.int j) = some (!decide (i = j)) := rfl
theorem c_eqs {i j : Str} : cmpD .eq (.str i) (.str j) = some (i == j) := rfl
theorem c_lt {i j : Int} : cmpD .lt (.int i) (.int j) = some (decide (i < j)) := rfl
theorem c_le {i j : Int} : cmpD .le (.int i) (.int j) = some (decide (i ≤ j)) := rfl
theorem c_gt {i j : Int} : cmpD .gt (.int i) (.int j) = some (decide (j < i)) := rfl
theorem c_ge {i j : Int} : cmpD .ge (.int i) (.int j) = some (decide (j ≤ i)) := rfl
theorem s_t {i : Int} : subD (.tup ds) (.int i) = atD ds i := rfl
theorem s_l {i : Int} : subD (.lst ds) (.int i) = atD ds i := rfl
theorem t_nm {i : Nat} : bindT (.name i) d ρ = some (ρ.set i (some d)) := rfl
theorem t_tp {ts : List T} : bindT (.tup ts) (.tup ds) ρ = bindTs ts ds ρ := rfl
theorem t_0 : bindTs [] [] ρ = some ρ := rfl
theorem t_1 {t : T} {ts : List T} : bindTs (t :: ts) (d :: ds) ρ = (bindT t d ρ).bind (bindTs ts ds) := rfl
theorem u_int {n : Nat} {i : Int} : D.under n (.int i) = true := by simp [D.under]
theorem u_bl {n : Nat} {i : Bool} : D.under n (.bl i) = true := by simp [D.under]
theorem u_str {n : Nat} {i : Str} : D.under n (.str i) = true := by simp [D.under]
theorem u_non {n : Nat} : D.under n .non = true := by simp [D.under]
theorem u_tup {n : Nat} : D.under n (.tup ds) = D.unders n ds := by simp [D.under]
theorem u_lst {n : Nat} : D.under n (.lst ds) = D.unders n ds := by simp [D.under]
theorem u_0 {n : Nat} : D.unders n [] = true := by simp [D.unders]
theorem u_1 {n : Nat} : D.unders n (d :: ds) = (D.under n d && D.unders n ds) := by simp [D.unders]
theorem u_s {n : Nat} {s : Stand} : D.under n s.d = true := by simp [Stand.d, D.under, D.unders]
theorem l_le : ∀ {n : Nat}, n ≤ 20 → n ≤ LIM := fun h => Nat.le_trans h (by decide)
theorem l_lt : ∀ {n : Nat}, n < 20 → n < LIM := fun h => Nat.lt_of_lt_of_le h (by decide)
theorem n_0 : ((0 : Nat) : Int) = 0 := rfl
theorem n_1 : (((0 + 1) : Nat) : Int) = 1 := rfl
theorem n_2 : ((((0 + 1) + 1) : Nat) : Int) = 2 := rfl
theorem n_3 : (((((0 + 1) + 1) + 1) : Nat) : Int) = 3 := rfl
theorem n_4 : ((((((0 + 1) + 1) + 1) + 1) : Nat) : Int) = 4 := rfl
theorem n_5 : (((((((0 + 1) + 1) + 1) + 1) + 1) : Nat) : Int) = 5 := rfl
theorem n_6 : ((((((((0 + 1) + 1) + 1) + 1) + 1) + 1) : Nat) : Int) = 6 := rfl
theorem n_7 : (((((((((0 + 1) + 1) + 1) + 1) + 1) + 1) + 1) : Nat) : Int) = 7 := rfl
theorem n_8 : ((((((((((0 + 1) + 1) + 1) + 1) + 1) + 1) + 1) + 1) : Nat) : Int) = 8 := rfl
theorem n_9 : (((((((((((0 + 1) + 1) + 1) + 1) + 1) + 1) + 1) + 1) + 1) : Nat) : Int) = 9 := rfl
theorem n_10 : ((((((((((((0 + 1) + 1) + 1) + 1) + 1) + 1) + 1) + 1) + 1) + 1) : Nat) : Int) = 10 := rfl
theorem n_11 : (((((((((((((0 + 1) + 1) + 1) + 1) + 1) + 1) + 1) + 1) + 1) + 1) + 1) : Nat) : Int) = 11 := rfl
theorem n_12 : ((((((((((((((0 + 1) + 1) + 1) + 1) + 1) + 1) + 1) + 1) + 1) + 1) + 1) + 1) : Nat) : Int) = 12 := rfl
theorem m_0 : 0 < LIM := by decide
theorem m_1 : (0 + 1) < LIM := by decide
theorem m_2 : ((0 + 1) + 1) < LIM := by decide
theorem m_3 : (((0 + 1) + 1) + 1) < LIM := by decide
theorem m_4 : ((((0 + 1) + 1) + 1) + 1) < LIM := by decide
theorem m_5 : (((((0 + 1) + 1) + 1) + 1) + 1) < LIM := by decide
theorem m_6 : ((((((0 + 1) + 1) + 1) + 1) + 1) + 1) < LIM := by decide
theorem m_7 : (((((((0 + 1) + 1) + 1) + 1) + 1) + 1) + 1) < LIM := by decide
theorem m_8 : ((((((((0 + 1) + 1) + 1) + 1) + 1) + 1) + 1) + 1) < LIM := by decide
theorem m_9 : (((((((((0 + 1) + 1) + 1) + 1) + 1) + 1) + 1) + 1) + 1) < LIM := by decide
theorem m_10 : ((((((((((0 + 1) + 1) + 1) + 1) + 1) + 1) + 1) + 1) + 1) + 1) < LIM := by decide
theorem m_11 : (((((((((((0 + 1) + 1) + 1) + 1) + 1) + 1) + 1) + 1) + 1) + 1) + 1) < LIM := by decide
theorem m_12 : ((((((((((((0 + 1) + 1) + 1) + 1) + 1) + 1) + 1) + 1) + 1) + 1) + 1) + 1) < LIM := by decide
theorem m_13 : (((((((((((((0 + 1) + 1) + 1) + 1) + 1) + 1) + 1) + 1) + 1) + 1) + 1) + 1) + 1) < LIM := by decide
theorem m_14 : ((((((((((((((0 + 1) + 1) + 1) + 1) + 1) + 1) + 1) + 1) + 1) + 1) + 1) + 1) + 1) + 1) < LIM := by decide
theorem m_15 : (((((((((((((((0 + 1) + 1) + 1) + 1) + 1) + 1) + 1) + 1) + 1) + 1) + 1) + 1) + 1) + 1) + 1) < LIM := by decide
theorem m_16 : ((((((((((((((((0 + 1) + 1) + 1) + 1) + 1) + 1) + 1) + 1) + 1) + 1) + 1) + 1) + 1) + 1) + 1) + 1) < LIM := by decide
theorem l_5 : ((((0 + 1) + 1) + 1) + 1) + 1 ≤ LIM := by decide
theorem l_4 : (((0 + 1) + 1) + 1) + 1 ≤ LIM := by decide
theorem l_3 : ((0 + 1) + 1) + 1 ≤ LIM := by decide
theorem l_2 : (0 + 1) + 1 ≤ LIM := by decide
theorem l_1 : 0 + 1 ≤ LIM := by decide
theorem l_0 : 0 ≤ LIM := by decide
end
end Ev

namespace Ev
open PySem
def Sp (a b : Int) : Prop := 0 ≤ a ∧ 0 ≤ b ∧ b < 999999999989
def sB (a b : Int) : B := .lst [.int a, .int b]
section
variable {st : Store} {n : Nat} {a b : Int} {ds : List D} {d x : D}
theorem rd_at (h : st[n]? = some (.lst ds)) : rd st (.box n) = .lst ds := by simp only [rd, h]
theorem at_set (h : n < st.length) {y : B} : (st.set n y)[n]? = some y := by rw [List.getElem?_set, if_pos rfl, if_pos h]
theorem rd_set (h : n < st.length) : rd (st.set n (.lst ds)) (.box n) = .lst ds := rd_at (at_set h)
theorem tk_set {y : B} : List.take st.length (st.set n y) = st.set n y := List.take_of_length_le (by simp)
theorem set_0 {base : Nat} {v u : D} {i : Int} (h : st[n]? = some (.lst [u, v])) : setL base (.box n) (.int 0) (.int i) st = some (st.set n (.lst [.int i, v])) := by
  simp [setL, h, put, D.under]
theorem set_1 {base : Nat} {v u : D} {i : Int} (h : st[n]? = some (.lst [u, v])) : setL base (.box n) (.int 1) (.int i) st = some (st.set n (.lst [u, .int i])) := by
  simp [setL, h, put, D.under]
theorem f_box (h : D.unders st.length ds = true) : fin st.length (.rt (.box st.length), st ++ [.lst ds]) = some (.box st.length, st ++ [.lst ds]) := by
  simp [fin, retv, B.under, h]
theorem isLB_last : isLB (.box st.length) (st ++ [.lst ds]) = true := by simp [isLB]
theorem app_last : appendD st.length (.box st.length) x (st ++ [.lst ds]) = if ds.length < LIM then some (.non, st ++ [.lst (ds ++ [x])]) else none := by
  simp [appendD, put]
theorem frz_last : frzD st.length (.box st.length) (st ++ [.lst ds]) = some (.lst ds, st ++ [.dead]) := by simp [frzD]
theorem tk_last {y : B} : List.take st.length (st ++ [y]) = st := by simp
theorem b_mull {i j : Int} (h : -(2 ^ 64) < i ∧ i < 2 ^ 64) : binD .mul (.int i) (.int j) = some (.int (i * j)) := by
  show (if _ then _ else _) = _
  rw [if_pos (.inl h)]
theorem b_mulr {i j : Int} (h : -(2 ^ 64) < j ∧ j < 2 ^ 64) : binD .mul (.int i) (.int j) = some (.int (i * j)) := by
  show (if _ then _ else _) = _
  rw [if_pos (.inr h)]
theorem b_mod {i j : Int} (h : 0 < j) : binD .mod (.int i) (.int j) = some (.int (i % j)) := by
  show (if _ then _ else _) = _
  rw [if_pos h]
theorem b_div {i j : Int} (h : 0 < j ∧ j < 1073741824) : binD .fdiv (.int i) (.int j) = some (.int (i / j)) := by
  show (if _ then _ else _) = _
  rw [if_pos h]
theorem b_pow : binD .pow (.int 10) (.int 18) = some (.int 1000000000000000000) := by rfl
theorem i_23 {i : Int} : inD (.int i) (.lst [.int 2, .int 3]) = some (decide (2 = i) || decide (3 = i)) := by
  show some ((2 == i) || ((3 == i) || false)) = _
  rw [Bool.or_false]; rfl
theorem eq_nn : cmpD .eq .non .non = some true := rfl
theorem eq_bb {i : Bool} : cmpD .eq (.bl i) (.bl i) = some true := by cases i <;> rfl
theorem eq_ll : cmpD .eq (.lst []) (.lst []) = some true := rfl
theorem at_ints {ns : List Int} {i : Int} (h : 0 ≤ i) (h2 : i < ns.length) : ∃ z, atD (ns.map .int) i = some (.int z) := by
  have hl : i.toNat < ns.length := by omega
  refine ⟨ns[i.toNat], ?_⟩
  unfold atD
  rw [if_pos h, List.length_map, if_pos h2, List.getElem?_map, List.getElem?_eq_getElem hl]
  rfl
theorem walkF_inv {step : D → Env → M Fl} (P : Env → Store → Prop) : ∀ (ds : List D) (ρ : Env) (st : Store), P ρ st → (∀ d ∈ ds, ∀ ρ st, P ρ st → ∃ ρ' st', step d ρ st = some (.nx ρ', st') ∧ P ρ' st') → ∃ ρ' st', walkF step ds ρ st = some (.nx ρ', st') ∧ P ρ' st'
  | [], ρ, st, h, _ => ⟨ρ, st, rfl, h⟩
  | d :: ds, ρ, st, h, hs => by
    obtain ⟨ρ1, st1, e1, h1⟩ := hs d (List.mem_cons_self ..) ρ st h
    obtain ⟨ρ2, st2, e2, h2⟩ := walkF_inv P ds ρ1 st1 h1 fun d hd => hs d (List.mem_cons_of_mem _ hd)
    exact ⟨ρ2, st2, by rw [r_walkF, e1, Option.bind_some, r_walkF1, e2], h2⟩
theorem walkF_n {step : D → Env → M Fl} (P : Nat → Env → Store → Prop) (N : Nat) : ∀ (ds : List D) (i : Nat) (ρ : Env) (st : Store), i + ds.length ≤ N → P i ρ st → (∀ d ∈ ds, ∀ i ρ st, i < N → P i ρ st → ∃ ρ' st', step d ρ st = some (.nx ρ', st') ∧ P (i + 1) ρ' st') → ∃ ρ' st', walkF step ds ρ st = some (.nx ρ', st') ∧ P (i + ds.length) ρ' st'
  | [], i, ρ, st, _, h, _ => ⟨ρ, st, rfl, h⟩
  | d :: ds, i, ρ, st, hn, h, hs => by
    simp only [List.length_cons] at hn
    obtain ⟨ρ1, st1, e1, h1⟩ := hs d (List.mem_cons_self ..) i ρ st (by omega) h
    obtain ⟨ρ2, st2, e2, h2⟩ := walkF_n P N ds (i + 1) ρ1 st1 (by omega) h1 fun d hd => hs d (List.mem_cons_of_mem _ hd)
    refine ⟨ρ2, st2, by rw [r_walkF, e1, Option.bind_some, r_walkF1, e2], ?_⟩
    rw [List.length_cons, show i + (ds.length + 1) = i + 1 + ds.length by omega]
    exact h2
theorem rng_len {lo hi : Int} {ds : List D} (h : rngD lo hi = some ds) : ds.length = (hi - lo).toNat := by
  unfold rngD at h
  split at h <;> cases h
  simp
theorem b_addl {xs ys : List D} (h : xs.length + ys.length ≤ LIM) : binD .add (.lst xs) (.lst ys) = some (.lst (xs ++ ys)) := by
  show (if _ then _ else _) = _
  rw [if_pos h]
theorem b_addt {xs ys : List D} (h : xs.length + ys.length ≤ LIM) : binD .add (.tup xs) (.tup ys) = some (.tup (xs ++ ys)) := by
  show (if _ then _ else _) = _
  rw [if_pos h]
theorem pls_ints {n : Nat} {α : Type} {f : α → Int} : ∀ l : List α, D.pls n (l.map fun a => D.int (f a)) = true
  | [] => by simp [D.pls]
  | a :: l => by simp [D.pls, D.pl, pls_ints l]
theorem rng_mem {lo hi : Int} {ds : List D} (h : rngD lo hi = some ds) : ∀ d ∈ ds, ∃ i : Int, d = .int i ∧ lo ≤ i ∧ i < hi := by
  unfold rngD at h
  split at h <;> cases h
  intro d hd
  obtain ⟨i, hi, rfl⟩ := List.mem_map.mp hd
  rw [List.mem_range] at hi
  exact ⟨lo + i, rfl, by omega, by omega⟩
theorem rng_ok {lo hi : Int} (h1 : -1000 ≤ lo ∧ lo ≤ 1000) (h2 : -1000 ≤ hi ∧ hi ≤ 1000) : ∃ ds, rngD lo hi = some ds := by
  unfold rngD
  rw [if_pos (by omega)]
  exact ⟨_, rfl⟩
end
def kindOf : D → Int
  | .non => 0
  | .bl _ => 1
  | .lst _ => 2
  | .tup _ => 3
  | .int _ => 4
  | .str _ => 5
  | _ => 6
def allChoices : List Choice := [⟨false, false, false⟩, ⟨false, false, true⟩, ⟨false, true, false⟩, ⟨false, true, true⟩, ⟨true, false, false⟩, ⟨true, false, true⟩, ⟨true, true, false⟩, ⟨true, true, true⟩]
def allStands (lift clock : Int) : List Stand :=
  (List.range (lift + 1).toNat).flatMap fun (h : Nat) => (([-1, 1] : List Int).flatMap fun l => (List.range (if (h : Int) = lift then (if clock > 1 then clock else 1) else 1).toNat).map fun (t : Nat) => (⟨h, 0, l, t⟩ : Stand)) ++
    (if 0 < (h : Int) ∧ (h : Int) < lift then [⟨h, -1, 0, 0⟩, ⟨h, 1, 0, 0⟩] else [])
theorem rng8 : rngD 0 8 = some [.int 0, .int 1, .int 2, .int 3, .int 4, .int 5, .int 6, .int 7] := by rfl
theorem rng1 : rngD 0 1 = some [.int 0] := by rfl
theorem rng2 : rngD 0 2 = some [.int 0, .int 1] := by rfl
theorem rng3 : rngD 0 3 = some [.int 0, .int 1, .int 2] := by rfl
theorem rng4 : rngD 0 4 = some [.int 0, .int 1, .int 2, .int 3] := by rfl
end Ev

namespace Ev
open PySem
theorem tick_eq (p : Plan) (s : Stand) (c : Choice) (hp : p.Ok) (hs : Fits p s) : tick p s c = passed p s c := by
  obtain ⟨h1, h2, h3, h4⟩ := hp
  obtain ⟨g1, g2, g3, g4, g5⟩ := hs
  obtain ⟨lift, r, eye, clock, w, mem⟩ := p
  obtain ⟨h, m, l, t⟩ := s
  obtain ⟨press, stands, cut⟩ := c
  simp only at *
  cases cut with
  | true => simp [tick, passed, cutOff]
  | false =>
    have hm : m = -1 ∨ m = 0 ∨ m = 1 := by omega
    have hl : lift = 1 ∨ lift = 2 ∨ lift = 3 := by omega
    have hh : h = 0 ∨ h = 1 ∨ h = 2 ∨ h = 3 := by omega
    rcases hm with rfl | rfl | rfl
    · simp at g5
      obtain ⟨g5, g6, rfl, rfl⟩ := g5
      rcases hl with rfl | rfl | rfl <;> rcases hh with rfl | rfl | rfl | rfl <;> first | omega | (cases press <;> cases stands <;> cases eye <;> cases r <;> simp [tick, passed, ordered, move, lawEye, lawMove, clip, opt, stop])
    · simp at g5
      obtain ⟨g5, g6, g7, g8, g9⟩ := g5
      have hl2 : l = -1 ∨ l = 1 := by omega
      rcases hl with rfl | rfl | rfl <;> rcases hh with rfl | rfl | rfl | rfl <;> first | omega | (rcases hl2 with rfl | rfl <;> cases press <;> cases stands <;> cases eye <;> simp [tick, passed, ordered, move, lawEye, lawMove, clip, opt, stop] <;> (try split) <;> (try split) <;> simp_all <;> omega)
    · simp at g5
      obtain ⟨g5, g6, rfl, rfl⟩ := g5
      rcases hl with rfl | rfl | rfl <;> rcases hh with rfl | rfl | rfl | rfl <;> first | omega | (cases press <;> cases stands <;> cases eye <;> cases r <;> simp [tick, passed, ordered, move, lawEye, lawMove, clip, opt, stop])
end Ev

namespace Ev
open PySem
theorem fits_begin (p : Plan) (hp : p.Ok) : Fits p ⟨0, 0, 1, 0⟩ := by
  obtain ⟨h1, h2, h3, h4⟩ := hp
  refine ⟨by decide, by show (0 : Int) ≤ p.lift; omega, by show (-1 : Int) ≤ 0; decide, by show (0 : Int) ≤ 1; decide, ?_⟩
  simp only [if_true]
  refine ⟨by omega, by omega, by omega, by omega, ?_⟩
  rw [if_neg (by omega)]; omega
theorem fits_stay (p : Plan) (h l t : Int) (h0 : 0 ≤ h) (h1 : h ≤ p.lift) (hl : l = 1 ∨ l = -1) (ht : 0 ≤ t) (ht2 : t ≤ (if h = p.lift then (if p.clock - 1 > 0 then p.clock - 1 else 0) else 0)) : Fits p ⟨h, 0, l, t⟩ := by
  refine ⟨h0, h1, by show (-1 : Int) ≤ 0; decide, by show (0 : Int) ≤ 1; decide, ?_⟩
  simp only [if_true]
  exact ⟨by omega, by omega, by omega, ht, ht2⟩
theorem fits_stay0 (p : Plan) (h l : Int) (h0 : 0 ≤ h) (h1 : h ≤ p.lift) (hl : l = 1 ∨ l = -1) : Fits p ⟨h, 0, l, 0⟩ := fits_stay p h l 0 h0 h1 hl (by decide) (by split <;> (try split) <;> omega)
theorem fits_go (p : Plan) (h m : Int) (h0 : 0 < h) (h1 : h < p.lift) (hm : m = 1 ∨ m = -1) : Fits p ⟨h, m, 0, 0⟩ := by
  refine ⟨by show (0 : Int) ≤ h; omega, by show h ≤ p.lift; omega, by show (-1 : Int) ≤ m; omega, by show m ≤ 1; omega, ?_⟩
  simp only
  rw [if_neg (by omega)]
  exact ⟨h0, h1, by trivial, by trivial⟩
theorem clip_in (lift x : Int) (h : 0 ≤ lift) : 0 ≤ clip lift x ∧ clip lift x ≤ lift := by
  unfold clip
  split <;> split <;> omega
theorem fits_move (p : Plan) (hp : p.Ok) (s : Stand) (m l t : Int) (a b c : Bool) (hs : 0 ≤ s.h ∧ s.h ≤ p.lift) (hm : m = 0 ∨ m = 1 ∨ m = -1)
    (h0 : m = 0 → (l = 1 ∨ l = -1) ∧ 0 ≤ t ∧ t ≤ (if s.h = p.lift then (if p.clock - 1 > 0 then p.clock - 1 else 0) else 0)) : Fits p (move p s m l t a b c).1 := by
  have hl : 0 ≤ p.lift := by have := hp.1; omega
  have hc := clip_in p.lift (s.h + m) hl
  simp only [move]
  split
  · rename_i z
    subst z
    have e : clip p.lift (s.h + 0) = s.h := by unfold clip; split <;> split <;> omega
    rw [e]
    obtain ⟨a1, a2, a3⟩ := h0 rfl
    exact fits_stay p _ l t hs.1 hs.2 a1 a2 a3
  · rename_i z
    split
    · rename_i z2
      exact fits_go p _ m z2.1 z2.2 (by omega)
    · exact fits_stay0 p _ _ hc.1 hc.2 (by split <;> simp)
theorem stop_ok (r : Rs) (m : Int) (h : m = 1 ∨ m = -1) : stop r m = 1 ∨ stop r m = -1 := by
  cases r
  · show -m = 1 ∨ -m = -1
    omega
  · exact h
  · exact .inl rfl
theorem fits_passed (p : Plan) (hp : p.Ok) (s : Stand) (c : Choice) (hs : Fits p s) : Fits p (passed p s c).1 := by
  obtain ⟨g1, g2, g3, g4, g5⟩ := hs
  obtain ⟨h1, h2, h3, h4⟩ := hp
  have hm : s.m = 0 ∨ (s.m = 1 ∨ s.m = -1) := by omega
  unfold passed
  split
  · unfold cutOff
    refine fits_stay0 p _ _ g1 g2 ?_
    split
    · split
      · rename_i z; rw [if_pos z] at g5; omega
      · rename_i z; exact stop_ok _ _ (by omega)
    · exact .inl rfl
  · simp only
    have ho : ((ordered p s c.press).1 = 0 ∨ (ordered p s c.press).1 = 1 ∨ (ordered p s c.press).1 = -1) ∧ ((ordered p s c.press).1 = 0 → ((ordered p s c.press).2.1 = 1 ∨ (ordered p s c.press).2.1 = -1) ∧ 0 ≤ (ordered p s c.press).2.2 ∧
        (ordered p s c.press).2.2 ≤ (if s.h = p.lift then (if p.clock - 1 > 0 then p.clock - 1 else 0) else 0)) := by
      unfold ordered
      split
      · split
        · rename_i z; rw [if_pos z] at g5; exact ⟨by omega, fun e => by simp only at e; omega⟩
        · rename_i z; exact ⟨.inl rfl, fun _ => ⟨stop_ok _ _ (by omega), by show (0 : Int) ≤ 0; decide, by show (0 : Int) ≤ _; split <;> (try split) <;> omega⟩⟩
      · split
        · rename_i z; obtain ⟨z1, z2, z3⟩ := z
          rw [if_pos z1] at g5
          rw [if_pos z2] at g5
          split
          · exact ⟨.inr (.inr rfl), fun e => by simp only at e; omega⟩
          · rename_i z4
            refine ⟨.inl rfl, fun _ => ⟨by simp only; omega, by simp only; omega, ?_⟩⟩
            simp only
            have := g5.2.2.2.2
            split at this <;> split <;> omega
        · rename_i z
          refine ⟨by simp only; omega, fun e => ?_⟩
          simp only at e ⊢
          rw [if_pos e] at g5
          exact ⟨by omega, g5.2.2.2.1, g5.2.2.2.2⟩
    obtain ⟨ho1, ho2⟩ := ho
    refine fits_move p ⟨h1, h2, h3, h4⟩ s _ _ _ _ _ _ ⟨g1, g2⟩ ?_ ?_
    · split
      · exact .inr (.inl rfl)
      · exact ho1
    · split
      · intro z; omega
      · exact ho2
end Ev

namespace Ev
open PySem
section
variable (c : Ctx) (ρ : Env)
def kBn (neg : Bool) (st : Store) (b : Bool) : D × Store := (.bl (b != neg), st)
def kDin2 (neg : Bool) (x : D) (q : D × Store) : Option (D × Store) := (dinD (rd q.2 q.1) x).map (kBn neg q.2)
def kDin (neg : Bool) (a : E) (r : D × Store) : Option (D × Store) := (evE c a ρ r.2).bind (kDin2 neg r.1)
def kPop (r : D × Store) : Option (D × Store) := popD r.1 r.2
def kGt2 (x : D) (q : D × Store) : Option (D × Store) := (getD1 (rd q.2 x) q.1).map (kFn q.2)
def kGt (k : E) (r : D × Store) : Option (D × Store) := if isDct (rd r.2 r.1) then (evE c k ρ r.2).bind (kGt2 r.1) else none
def kCat3 (st : Store) (x y : D) : Option (D × Store) := match x, y with
  | .lst xs, .lst ys => if xs.length + ys.length ≤ LIM then some (.box st.length, st ++ [.lst (xs ++ ys)]) else none
  | _, _ => none
def kCat2 (x : D) (q : D × Store) : Option (D × Store) := kCat3 q.2 (rd q.2 x) (rd q.2 q.1)
def kCat (b : E) (r : D × Store) : Option (D × Store) := (evE c b ρ r.2).bind (kCat2 r.1)
def kSk3 (x o : D) (s : D × Store) : Option (Fl × Store) := (setK c.base o s.1 x s.2).map (kSt ρ)
def kSk2 (x : D) (i : E) (q : D × Store) : Option (Fl × Store) := (evE c i ρ q.2).bind (kSk3 c ρ x q.1)
def kSk (o i : E) (r : D × Store) : Option (Fl × Store) := (evE c o ρ r.2).bind (kSk2 c ρ r.1 i)
def kKeys (r : D × Store) : Option ((List D × Option Nat) × Store) := match r.1 with
  | .dct t ks _ => some ((ks, none), r.2)
  | _ => none
def kItems (r : D × Store) : Option ((List D × Option Nat) × Store) := match r.1 with
  | .dct t ks vs => if t then some (((ks.zip vs).map fun p => .tup [p.1, p.2], none), r.2) else none
  | _ => none
def dS4 (acc : List D × List D) (k : D) (s : D × Store) : Option ((List D × List D) × Store) := if keyFits true k && decide (acc.1.length < LIM) then some (dput acc.1 acc.2 k s.1, s.2) else none
def dS3 (v : E) (ρ' : Env) (acc : List D × List D) (q : D × Store) : Option ((List D × List D) × Store) := (evE c v ρ' q.2).bind (dS4 acc q.1)
def dS2 (k v : E) (ρ' : Env) (acc : List D × List D) (z : Bool × Store) : Option ((List D × List D) × Store) := if z.1 then (evE c k ρ' z.2).bind (dS3 c v ρ' acc) else some (acc, z.2)
def dS1 (k v : E) (g : Option E) (acc : List D × List D) (st : Store) (ρ' : Env) : Option ((List D × List D) × Store) := (evG c g ρ' st).bind (dS2 c k v ρ' acc)
def dcSt (own : List Nat) (k v : E) (t : T) (g : Option E) (d : D) (acc : List D × List D) (st : Store) : Option ((List D × List D) × Store) := (bindT t d (wipeE ρ own)).bind (dS1 c k v g acc st)
def kDcm2 (q : (List D × List D) × Store) : Option (D × Store) := some (.box q.2.length, q.2 ++ [.dct true q.1.1 q.1.2])
def kDcm (own : List Nat) (k v : E) (t : T) (g : Option E) (w : (List D × Option Nat) × Store) : Option (D × Store) := match w.1.2 with
  | none => (walkL (dcSt c ρ own k v t g) w.1.1 (([], []) : List D × List D) w.2).bind kDcm2
  | some _ => none
end
section
variable {c : Ctx} {ρ : Env} {st : Store} {a b e o k v x : E} {es : List E} {d x' y' : D} {ds ks vs : List D}
theorem r_din {neg : Bool} : evE c (.din neg k a) ρ st = (evE c k ρ st).bind (kDin c ρ neg a) := by rw [evE]; rfl
theorem r_din1 {neg : Bool} : kDin c ρ neg a (d, st) = (evE c a ρ st).bind (kDin2 neg d) := rfl
theorem r_din2 {neg : Bool} : kDin2 neg x' (d, st) = (dinD (rd st d) x').map (kBn neg st) := rfl
theorem r_din3 {neg i : Bool} : kBn neg st i = (.bl (i != neg), st) := rfl
theorem r_pop : evE c (.pop o) ρ st = (evE c o ρ st).bind kPop := by rw [evE]; rfl
theorem r_pop1 : kPop (d, st) = popD d st := rfl
theorem r_gt : evE c (.get1 o k) ρ st = (evE c o ρ st).bind (kGt c ρ k) := by rw [evE]; rfl
theorem r_gt1 : kGt c ρ k (d, st) = if isDct (rd st d) then (evE c k ρ st).bind (kGt2 d) else none := rfl
theorem r_gt2 : kGt2 x' (d, st) = (getD1 (rd st x') d).map (kFn st) := rfl
theorem r_cat : evE c (.catB a b) ρ st = (evE c a ρ st).bind (kCat c ρ b) := by rw [evE]; rfl
theorem r_cat1 : kCat c ρ b (d, st) = (evE c b ρ st).bind (kCat2 d) := rfl
theorem r_cat2 : kCat2 x' (d, st) = kCat3 st (rd st x') (rd st d) := rfl
theorem r_cat3 {xs ys : List D} : kCat3 st (.lst xs) (.lst ys) = if xs.length + ys.length ≤ LIM then some (.box st.length, st ++ [.lst (xs ++ ys)]) else none := rfl
theorem r_sk : evS c (.setK o a e) ρ st = (evE c e ρ st).bind (kSk c ρ o a) := by rw [evS]; rfl
theorem r_sk1 : kSk c ρ o a (d, st) = (evE c o ρ st).bind (kSk2 c ρ d a) := rfl
theorem r_sk2 : kSk2 c ρ x' a (d, st) = (evE c a ρ st).bind (kSk3 c ρ x' d) := rfl
theorem r_sk3 {g : Nat → List D → M D} {bs fu : Nat} : kSk3 ⟨g, bs, fu⟩ ρ x' y' (d, st) = (setK bs y' d x' st).map (kSt ρ) := rfl
theorem r_keys : evI c (.keys e) ρ st = (evE c e ρ st).bind kKeys := by rw [evI]; rfl
theorem r_keys1 {t : Bool} : kKeys (.dct t ks vs, st) = some ((ks, none), st) := rfl
theorem r_items : evI c (.items e) ρ st = (evE c e ρ st).bind kItems := by rw [evI]; rfl
theorem r_items1 : kItems (.dct true ks vs, st) = some (((ks.zip vs).map fun p => .tup [p.1, p.2], none), st) := rfl
theorem r_dcm {own : List Nat} {t : T} {it : I} {g : Option E} : evE c (.dcomp true true own k v t it g) ρ st = (evI c it ρ st).bind (kDcm c ρ own k v t g) := by rw [evE]; rfl
theorem r_dcm1 {own : List Nat} {t : T} {g : Option E} : kDcm c ρ own k v t g ((ds, none), st) = (walkL (dcSt c ρ own k v t g) ds (([], []) : List D × List D) st).bind kDcm2 := rfl
theorem r_dcm2 {q : List D × List D} : kDcm2 (q, st) = some (.box st.length, st ++ [.dct true q.1 q.2]) := rfl
theorem r_dcs {own : List Nat} {t : T} {g : Option E} {acc : List D × List D} : dcSt c ρ own k v t g d acc st = (bindT t d (wipeE ρ own)).bind (dS1 c k v g acc st) := rfl
theorem r_dcs1 {g : Option E} {acc : List D × List D} {ρ' : Env} : dS1 c k v g acc st ρ' = (evG c g ρ' st).bind (dS2 c k v ρ' acc) := rfl
theorem r_dcs2 {acc : List D × List D} {ρ' : Env} {i : Bool} : dS2 c k v ρ' acc (i, st) = if i then (evE c k ρ' st).bind (dS3 c v ρ' acc) else some (acc, st) := rfl
theorem r_dcs3 {acc : List D × List D} {ρ' : Env} : dS3 c v ρ' acc (d, st) = (evE c v ρ' st).bind (dS4 acc d) := rfl
theorem r_dcs4 {acc : List D × List D} : dS4 acc x' (d, st) = if keyFits true x' && decide (acc.1.length < LIM) then some (dput acc.1 acc.2 x' d, st) else none := rfl
theorem r_whl {p : List S} {g : Nat → List D → M D} {bs fu : Nat} : evS ⟨g, bs, fu⟩ (.whl e p) ρ st = whileF (evC ⟨g, bs, fu⟩ e) (evSs ⟨g, bs, fu⟩ p) fu ρ st := by rw [evS]
theorem r_dctB {t : Bool} {q : List D × List D} : kDct1 true t st q = some (.box st.length, st ++ [.dct t q.1 q.2]) := rfl
theorem v_rd_ro : rd st (.ro ds) = .ro ds := rfl
/-- a while: each turn lessens n, or it ends -/
theorem while_ok {c : Env → M Bool} {step : Env → M Fl} {P : Nat → Env → Store → Prop} {Q : Fl → Store → Prop} (h : ∀ n ρ st, P n ρ st → (c ρ st = some (false, st) ∧ Q (.nx ρ) st) ∨ (c ρ st = some (true, st) ∧ ((∃ m ρ' st', m < n ∧ step ρ st = some (.nx ρ', st') ∧ P m ρ' st') ∨ ∃ d st', step ρ st = some (.rt d, st') ∧ Q (.rt d) st'))) :
    ∀ (n fuel : Nat) (ρ : Env) (st : Store), n < fuel → P n ρ st → ∃ r st', whileF c step fuel ρ st = some (r, st') ∧ Q r st' := by
  intro n
  induction n using Nat.strongRecOn with
  | _ n ih =>
    intro fuel ρ st hf hp
    cases fuel with
    | zero => omega
    | succ fuel =>
      rcases h n ρ st hp with ⟨e, q⟩ | ⟨e, ⟨m, ρ', st', hm, es, hp'⟩ | ⟨d, st', es, q⟩⟩
      · exact ⟨.nx ρ, st, by simp [whileF, e], q⟩
      · obtain ⟨r, st2, e2, q2⟩ := ih m hm fuel ρ' st' (by omega) hp'
        exact ⟨r, st2, by simp [whileF, e, es, e2], q2⟩
      · exact ⟨.rt d, st', by simp [whileF, e, es], q⟩
theorem rng_ok2 {lo hi : Int} (h1 : -1000000 ≤ lo ∧ lo ≤ 1000000) (h2 : -1000000 ≤ hi ∧ hi ≤ 1000000) : ∃ ds, rngD lo hi = some ds := by
  unfold rngD
  rw [if_pos (by omega)]
  exact ⟨_, rfl⟩
section
variable {α β : Type} [DecidableEq α] {kd : α → D} {vd : β → D}
/-- keys that are told apart by == -/
structure KdOk (kd : α → D) : Prop where
  eqv : ∀ a b, D.eqv (kd a) (kd b) = decide (a = b)
  fits : ∀ a, keyFits true (kd a) = true
theorem kfind_none (h : KdOk kd) {a : α} : ∀ {l : List α}, a ∉ l → kfind (l.map kd) (kd a) = none
  | [], _ => rfl
  | b :: l, hn => by
    have hb : ¬ b = a := fun z => hn (by rw [z]; exact List.mem_cons_self)
    simp only [List.map_cons, kfind, h.eqv, decide_eq_false hb, Bool.false_eq_true, if_false, kfind_none h (fun z => hn (List.mem_cons_of_mem _ z)), Option.map_none]
theorem kfind_some (h : KdOk kd) {a : α} : ∀ {l : List α}, a ∈ l → ∃ i, kfind (l.map kd) (kd a) = some i ∧ l[i]? = some a
  | b :: l, hm => by
    by_cases hb : b = a
    · exact ⟨0, by simp [kfind, h.eqv, hb], by simp [hb]⟩
    · obtain ⟨i, e1, e2⟩ := kfind_some h (List.mem_of_ne_of_mem (fun z => hb z.symm) hm)
      exact ⟨i + 1, by simp [kfind, h.eqv, hb, e1], by simpa using e2⟩
theorem kfind_is (h : KdOk kd) (a : α) (l : List α) : (kfind (l.map kd) (kd a)).isSome = decide (a ∈ l) := by
  by_cases hm : a ∈ l
  · obtain ⟨i, e, _⟩ := kfind_some h hm
    rw [e, decide_eq_true hm]; rfl
  · rw [kfind_none h hm, decide_eq_false hm]; rfl
def kys (kd : α → D) (W : List (α × β)) : List D := (W.map (·.1)).map kd
def vls (vd : β → D) (W : List (α × β)) : List D := (W.map (·.2)).map vd
theorem din_w (h : KdOk kd) (a : α) (W : List (α × β)) {vs : List D} : dinD (.dct true (kys kd W) vs) (kd a) = some (decide (a ∈ W.map (·.1))) := by
  simp only [dinD, h.fits, if_true, kys, kfind_is h]
theorem din_yes (h : KdOk kd) {a : α} {l : List α} (hm : a ∈ l) {vs : List D} : dinD (.dct true (l.map kd) vs) (kd a) = some true := by
  simp only [dinD, h.fits, if_true, kfind_is h]
  exact congrArg some (decide_eq_true hm)
theorem din_no (h : KdOk kd) {a : α} {l : List α} (hm : a ∉ l) {vs : List D} : dinD (.dct true (l.map kd) vs) (kd a) = some false := by
  simp only [dinD, h.fits, if_true, kfind_is h]
  exact congrArg some (decide_eq_false hm)
theorem dget_w (h : KdOk kd) {a : α} {b : β} {W : List (α × β)} (nd : (W.map (·.1)).Nodup) (hm : (a, b) ∈ W) : dget (kys kd W) (vls vd W) (kd a) = some (vd b) := by
  have ha : a ∈ W.map (·.1) := List.mem_map_of_mem (f := (·.1)) hm
  obtain ⟨i, e1, e2⟩ := kfind_some h ha
  obtain ⟨j, hj⟩ := List.getElem?_of_mem hm
  have ej : (W.map (·.1))[j]? = some a := by rw [List.getElem?_map, hj]; rfl
  have eij : i = j := by
    obtain ⟨l1, g1⟩ := List.getElem?_eq_some_iff.mp e2
    obtain ⟨l2, g2⟩ := List.getElem?_eq_some_iff.mp ej
    exact (List.getElem_inj (h₀ := l1) (h₁ := l2) nd).mp (g1.trans g2.symm)
  subst eij
  unfold dget kys vls
  rw [e1]
  simp [hj]
theorem dget_no (h : KdOk kd) {a : α} {W : List (α × β)} (hm : a ∉ W.map (·.1)) {vs : List D} : dget (kys kd W) vs (kd a) = none := by
  unfold dget kys
  rw [kfind_none h hm]; rfl
theorem dput_w (h : KdOk kd) {a : α} {b : β} {W : List (α × β)} (hm : a ∉ W.map (·.1)) : dput (kys kd W) (vls vd W) (kd a) (vd b) = (kys kd (W ++ [(a, b)]), vls vd (W ++ [(a, b)])) := by
  unfold dput
  rw [show kfind (kys kd W) (kd a) = none from kfind_none h hm]
  simp [kys, vls]
theorem dsub_w (h : KdOk kd) {a : α} {b : β} {W : List (α × β)} (nd : (W.map (·.1)).Nodup) (hm : (a, b) ∈ W) : dsubD (.dct true (kys kd W) (vls vd W)) (kd a) = some (vd b) := by
  simp only [dsubD, h.fits, if_true]
  exact dget_w h nd hm
theorem gets_w (h : KdOk kd) (a : α) {W : List (α × β)} (nd : (W.map (·.1)).Nodup) : getD1 (.dct true (kys kd W) (vls vd W)) (kd a) = some (match W.lookup a with | some b => vd b | none => .non) := by
  simp only [getD1, h.fits, if_true]
  cases hl : W.lookup a with
  | none =>
    have : a ∉ W.map (·.1) := fun hm => by
      obtain ⟨⟨a', b⟩, hm', rfl⟩ := List.mem_map.mp hm
      have := List.lookup_eq_none_iff.mp hl _ hm'
      simp at this
    rw [dget_no h this]; rfl
  | some b =>
    obtain ⟨l1, l2, e, _⟩ := List.lookup_eq_some_iff.mp hl
    rw [dget_w (vd := vd) (b := b) h nd (by rw [e]; simp)]; rfl
end
theorem at_1 {b1 b2 : B} : (st ++ [b1, b2])[st.length]? = some b1 := by simp
theorem at_2 {b1 b2 : B} : (st ++ [b1, b2])[st.length + 1]? = some b2 := by simp
theorem set_b1 {b1 b2 b3 : B} : (st ++ [b1, b2]).set st.length b3 = st ++ [b3, b2] := by simp
theorem set_b2 {b1 b2 b3 : B} : (st ++ [b1, b2]).set (st.length + 1) b3 = st ++ [b1, b3] := by simp
theorem rd_1 {t : Bool} {b2 : B} : rd (st ++ [.dct t ks vs, b2]) (.box st.length) = .dct t ks vs := by simp [rd]
theorem rd_2 {b1 : B} : rd (st ++ [b1, .lst ds]) (.box (st.length + 1)) = .lst ds := by simp [rd]
theorem isLB_2 {b1 : B} : isLB (.box (st.length + 1)) (st ++ [b1, .lst ds]) = true := by simp [isLB]
theorem app_2 {b1 : B} : appendD st.length (.box (st.length + 1)) x' (st ++ [b1, .lst ds]) = if ds.length < LIM then some (.non, st ++ [b1, .lst (ds ++ [x'])]) else none := by
  simp [appendD, put]
theorem setK_1 {b2 : B} {t : Bool} : setK st.length (.box st.length) d x' (st ++ [.dct t ks vs, b2]) = if keyFits t d && decide (ks.length < LIM) then some (st ++ [.dct t (dput ks vs d x').1 (dput ks vs d x').2, b2]) else none := by
  simp [setK, put]
theorem frz_1 {t : Bool} {b2 : B} : frzD st.length (.box st.length) (st ++ [.dct t ks vs, b2]) = some (.dct t ks vs, st ++ [.dead, b2]) := by simp [frzD]
theorem tk_2 {b1 b2 : B} : List.take st.length (st ++ [b1, b2]) = st := by simp
end
end Ev

namespace Ev
open PySem
theorem nodup_le {α : Type} [DecidableEq α] : ∀ {l m : List α}, l.Nodup → (∀ x ∈ l, x ∈ m) → l.length ≤ m.length
  | [], m, _, _ => Nat.zero_le _
  | x :: l, m, nd, h => by
    obtain ⟨n1, n2⟩ := List.nodup_cons.mp nd
    have hx := h x List.mem_cons_self
    have ih := nodup_le (m := m.erase x) n2 fun y hy => (List.mem_erase_of_ne (fun z => n1 (by rw [← z]; exact hy))).mpr (h y (List.mem_cons_of_mem _ hy))
    rw [List.length_erase_of_mem hx] at ih
    have : 0 < m.length := List.length_pos_of_mem hx
    simp only [List.length_cons]
    omega
section
variable {α γ : Type} [DecidableEq α] (nx : α → γ → α) (cs : List γ)
def addW (s : α) (r : List γ) (W : List (α × List γ)) (c : γ) : List (α × List γ) := if nx s c ∈ W.map (·.1) then W else W ++ [(nx s c, r ++ [c])]
def stepW (W : List (α × List γ)) (i : Nat) : List (α × List γ) := match W[i]? with
  | some (s, r) => cs.foldl (addW nx s r) W
  | none => W
def bfs : Nat → Nat → List (α × List γ) → List (α × List γ)
  | 0, _, W => W
  | n + 1, i, W => if i < W.length then bfs n (i + 1) (stepW nx cs W i) else W
theorem bfs_end {n i : Nat} {W : List (α × List γ)} (h : W.length ≤ i) : bfs nx cs n i W = W := by
  cases n with
  | zero => rfl
  | succ n => unfold bfs; rw [if_neg (by omega)]
variable {nx cs}
/-- all is right: keys told apart, and all in S -/
structure Gd (S : List α) (W : List (α × List γ)) : Prop where
  nd : (W.map (·.1)).Nodup
  sub : ∀ x ∈ W, x.1 ∈ S
theorem Gd.len {S : List α} {W : List (α × List γ)} (g : Gd S W) : W.length ≤ S.length := by
  have := nodup_le g.nd fun x hx => by
    obtain ⟨y, hy, rfl⟩ := List.mem_map.mp hx
    exact g.sub y hy
  simpa using this
theorem Gd.add {S : List α} {W : List (α × List γ)} (g : Gd S W) {s : α} {r : List γ} {c : γ} (h : nx s c ∈ S) : Gd S (addW nx s r W c) := by
  unfold addW
  split
  · exact g
  · rename_i hn
    refine ⟨?_, fun x hx => ?_⟩
    · rw [List.map_append]
      refine List.nodup_append.mpr ⟨g.nd, by simp, fun a ha b hb => ?_⟩
      have e : b = nx s c := by simpa using hb
      subst e
      exact fun z => hn (by rw [← z]; exact ha)
    · rcases List.mem_append.mp hx with hx | hx
      · exact g.sub x hx
      · have e : x = (nx s c, r ++ [c]) := by simpa using hx
        subst e
        exact h
theorem addW_mem {s : α} {r : List γ} {W : List (α × List γ)} {c : γ} {x : α × List γ} (h : x ∈ W) : x ∈ addW nx s r W c := by
  unfold addW
  split
  · exact h
  · exact List.mem_append_left _ h
end
/-- the stands that come up, with the first shortest runs -/
def nxS (p : Plan) (s : Stand) (c : Choice) : Stand := (passed p s c).1
def ways0 (p : Plan) : List (Stand × List Choice) := bfs (nxS p) allChoices 20 0 [(⟨0, 0, 1, 0⟩, [])]
@[irreducible] def ways (p : Plan) : List (Stand × List Choice) := ways0 p
theorem ways_eq (p : Plan) : bfs (nxS p) allChoices 20 0 [(⟨0, 0, 1, 0⟩, [])] = ways p := by
  unfold ways
  exact rfl

def runD (r : List Choice) : D := .tup (r.map Choice.d)
theorem kd_stand : KdOk Stand.d where
  eqv := fun a b => by
    obtain ⟨h, m, l, t⟩ := a
    obtain ⟨h', m', l', t'⟩ := b
    simp only [Stand.d, D.eqv, D.eqvs, Bool.and_true, Stand.mk.injEq]
    rw [Bool.eq_iff_iff]
    simp
  fits := fun a => by simp [Stand.d, keyFits, keyOk, isStr, tkeys, tkey]
theorem fits_in (p : Plan) (hp : p.Ok) (s : Stand) (hs : Fits p s) : s ∈ allStands p.lift p.clock := by
  obtain ⟨h1, h2, h3, h4⟩ := hp
  obtain ⟨g1, g2, g3, g4, g5⟩ := hs
  obtain ⟨h, m, l, t⟩ := s
  simp only at g1 g2 g3 g4 g5
  unfold allStands
  simp only [List.mem_flatMap, List.mem_append, List.mem_range]
  refine ⟨h.toNat, by omega, ?_⟩
  have eh : ((h.toNat : Nat) : Int) = h := by omega
  rw [eh]
  by_cases hm : m = 0
  · subst hm
    simp only [if_true] at g5
    refine .inl ⟨l, by simp; omega, ?_⟩
    refine List.mem_map.mpr ⟨t.toNat, ?_, by simp; omega⟩
    rw [List.mem_range]
    have := g5.2.2.2.2
    split at this <;> rename_i z
    · rw [if_pos z]; split at this <;> split <;> omega
    · rw [if_neg z]; omega
  · rw [if_neg hm] at g5
    refine .inr ?_
    rw [if_pos (show 0 < h ∧ h < p.lift from ⟨g5.1, g5.2.1⟩)]
    have : m = -1 ∨ m = 1 := by omega
    rcases this with rfl | rfl <;> simp [g5.2.2.1, g5.2.2.2]
theorem all_few (p : Plan) (hp : p.Ok) : (allStands p.lift p.clock).length ≤ 16 := by
  obtain ⟨h1, h2, h3, h4⟩ := hp
  have hl : p.lift = 1 ∨ p.lift = 2 ∨ p.lift = 3 := by omega
  have hc : p.clock = 0 ∨ p.clock = 1 ∨ p.clock = 2 ∨ p.clock = 3 := by omega
  rcases hl with e | e | e <;> rcases hc with e2 | e2 | e2 | e2 <;> rw [e, e2] <;> decide
/-- what the walk keeps -/
structure GdP (p : Plan) (W : List (Stand × List Choice)) : Prop where
  gd : Gd (allStands p.lift p.clock) W
  fits : ∀ x ∈ W, Fits p x.1
  runs : ∀ x ∈ W, x.2.length < W.length
theorem GdP.few {p : Plan} (hp : p.Ok) {W : List (Stand × List Choice)} (g : GdP p W) : W.length ≤ 16 := Nat.le_trans g.gd.len (all_few p hp)
theorem GdP.add {p : Plan} (hp : p.Ok) {W : List (Stand × List Choice)} (g : GdP p W) {s : Stand} {r : List Choice} (hm : (s, r) ∈ W) (c : Choice) : GdP p (addW (nxS p) s r W c) := by
  have hf : Fits p (nxS p s c) := fits_passed p hp s c (g.fits _ hm)
  refine ⟨g.gd.add (fits_in p hp _ hf), ?_, ?_⟩
  · unfold addW
    split
    · exact g.fits
    · intro x hx
      rcases List.mem_append.mp hx with hx | hx
      · exact g.fits x hx
      · have e : x = (nxS p s c, r ++ [c]) := by simpa using hx
        subst e; exact hf
  · unfold addW
    split
    · exact g.runs
    · intro x hx
      rw [List.length_append, List.length_singleton]
      rcases List.mem_append.mp hx with hx | hx
      · have := g.runs x hx; omega
      · have e : x = (nxS p s c, r ++ [c]) := by simpa using hx
        subst e
        have := g.runs _ hm
        simp only [List.length_append, List.length_singleton] at this ⊢
        omega
theorem GdP.fold {p : Plan} (hp : p.Ok) {s : Stand} {r : List Choice} : ∀ (cs : List Choice) {W : List (Stand × List Choice)}, GdP p W → (s, r) ∈ W → GdP p (cs.foldl (addW (nxS p) s r) W)
  | [], _, g, _ => g
  | c :: cs, _, g, hm => GdP.fold hp cs (g.add hp hm c) (addW_mem hm)
theorem GdP.start (p : Plan) (hp : p.Ok) : GdP p [(⟨0, 0, 1, 0⟩, [])] := by
  have hf := fits_begin p hp
  refine ⟨⟨by simp, fun x hx => ?_⟩, fun x hx => ?_, fun x hx => ?_⟩ <;> (have e : x = ((⟨0, 0, 1, 0⟩ : Stand), ([] : List Choice)) := by simpa using hx) <;> subst e
  · exact fits_in p hp _ hf
  · exact hf
  · simp
theorem GdP.step {p : Plan} (hp : p.Ok) {W : List (Stand × List Choice)} (g : GdP p W) (i : Nat) : GdP p (stepW (nxS p) allChoices W i) := by
  unfold stepW
  split
  · rename_i s r h
    exact g.fold hp _ (List.mem_of_getElem? h)
  · exact g
theorem GdP.bfs {p : Plan} (hp : p.Ok) : ∀ (n i : Nat) {W : List (Stand × List Choice)}, GdP p W → GdP p (bfs (nxS p) allChoices n i W)
  | 0, _, _, g => g
  | n + 1, i, _, g => by
    unfold Ev.bfs
    split
    · exact GdP.bfs hp n (i + 1) (g.step hp i)
    · exact g
theorem ways_ok0 (p : Plan) (hp : p.Ok) : GdP p (ways0 p) := (GdP.start p hp).bfs hp 20 0
theorem ways_ok (p : Plan) (hp : p.Ok) : GdP p (ways p) := by
  unfold ways
  exact ways_ok0 p hp
theorem v_rd_run {st : Store} {r : List Choice} : rd st (runD r) = runD r := rfl
theorem start_in (p : Plan) : ∀ (n i : Nat) (W : List (Stand × List Choice)) (x : Stand × List Choice), x ∈ W → x ∈ bfs (nxS p) allChoices n i W
  | 0, _, _, _, h => h
  | n + 1, i, W, x, h => by
    unfold bfs
    split
    · refine start_in p n (i + 1) _ x ?_
      unfold stepW
      split
      · rename_i s r _
        have : ∀ (cs : List Choice) (W : List (Stand × List Choice)), x ∈ W → x ∈ cs.foldl (addW (nxS p) s r) W := fun cs => by
          induction cs with
          | nil => exact fun W h => h
          | cons c cs ih => exact fun W h => ih _ (addW_mem h)
        exact this _ _ h
      · exact h
    · exact h
theorem begin_ways (p : Plan) : ((⟨0, 0, 1, 0⟩ : Stand), ([] : List Choice)) ∈ ways p := by
  rw [← ways_eq]
  exact start_in p 20 0 _ _ (by simp)
theorem runD_len {r : List Choice} : (r.map Choice.d).length = r.length := by simp
theorem u_run {n : Nat} : ∀ r : List Choice, D.unders n (r.map Choice.d) = true
  | [] => by simp [D.unders]
  | c :: r => by simp [D.unders, Choice.d, D.under, u_run r]
theorem u_stands {n : Nat} : ∀ r : List Stand, D.unders n (r.map Stand.d) = true
  | [] => by simp [D.unders]
  | c :: r => by simp [D.unders, Stand.d, D.under, u_stands r]
theorem u_runs {n : Nat} : ∀ r : List (List Choice), D.unders n (r.map runD) = true
  | [] => by simp [D.unders]
  | c :: r => by simp [D.unders, runD, D.under, u_run, u_runs r]
theorem u_ways {n : Nat} (W : List (Stand × List Choice)) : (D.unders n (kys Stand.d W) && D.unders n (vls runD W)) = true := by
  simp only [kys, vls, u_stands, u_runs, Bool.and_self]
/-- the dict of the ways -/
def waysD (W : List (Stand × List Choice)) : D := .dct true (kys Stand.d W) (vls runD W)
theorem u_waysD {n : Nat} (W : List (Stand × List Choice)) : D.under n (waysD W) = true := by
  simp only [waysD, D.under, u_ways]
theorem f_waysD {n : Nat} {W : List (Stand × List Choice)} {st : Store} : fin n (.rt (.dct true (kys Stand.d W) (vls runD W)), st) = some (waysD W, st.take n) := by
  show (if D.under n (waysD W) = true then some (waysD W, st.take n) else none) = _
  rw [u_waysD, if_pos rfl]
theorem kys_len {α β : Type} {kd : α → D} {W : List (α × β)} : (kys kd W).length = W.length := by simp [kys]
theorem kys_at {α β : Type} {kd : α → D} {W : List (α × β)} {i : Nat} {x : α × β} (h : W[i]? = some x) : atD (kys kd W) (i : Int) = some (kd x.1) := by
  have hl : i < W.length := (List.getElem?_eq_some_iff.mp h).1
  unfold atD
  rw [if_pos (by omega), if_pos (by rw [kys_len]; omega)]
  simp [kys, h]
theorem kys_snoc {α β : Type} {kd : α → D} {W : List (α × β)} {a : α} {b : β} : kys kd W ++ [kd a] = kys kd (W ++ [(a, b)]) := by simp [kys]
theorem run_snoc {r : List Choice} {c : Choice} : r.map Choice.d ++ [c.d] = (r ++ [c]).map Choice.d := by simp
end Ev

namespace Ev
open PySem
def rowS (s : Stand) : List Int := [s.h, s.m, s.l, s.t]
def stOf : List Int → Stand
  | [h, m, l, t] => ⟨h, m, l, t⟩
  | _ => ⟨0, 0, 0, 0⟩
theorem st_row (s : Stand) : stOf (rowS s) = s := rfl
theorem row_inj {a b : Stand} (h : rowS a = rowS b) : a = b := by rw [← st_row a, ← st_row b, h]
theorem sd_row (s : Stand) : s.d = ofRow (rowS s) := rfl
/-- the stands of a list, ascending, each once -/
def sortP (l : List Stand) : List Stand := (sortI (dedup (l.map rowS))).map stOf
theorem rows_mem {l : List Stand} {r : List Int} (h : r ∈ sortI (dedup (l.map rowS))) : ∃ s ∈ l, rowS s = r := by
  have := dedup_mem.mp ((sort_perm _).mem_iff.mp h)
  exact List.mem_map.mp this
theorem sortP_rows (l : List Stand) : (sortP l).map rowS = sortI (dedup (l.map rowS)) := by
  unfold sortP
  rw [List.map_map]
  conv => rhs; rw [← List.map_id (sortI (dedup (l.map rowS)))]
  refine List.map_congr_left fun r hr => ?_
  obtain ⟨s, _, rfl⟩ := rows_mem hr
  rfl
theorem sortP_mem {l : List Stand} {s : Stand} : s ∈ sortP l ↔ s ∈ l := by
  constructor
  · intro h
    obtain ⟨r, hr, rfl⟩ := List.mem_map.mp h
    obtain ⟨s, hs, rfl⟩ := rows_mem hr
    exact hs
  · intro h
    refine List.mem_map.mpr ⟨rowS s, ?_, rfl⟩
    exact (sort_perm _).mem_iff.mpr (dedup_mem.mpr (List.mem_map_of_mem h))
theorem nd_map {α β : Type} {f : α → β} (hf : ∀ a b, f a = f b → a = b) : ∀ {l : List α}, l.Nodup → (l.map f).Nodup
  | [], _ => List.nodup_nil
  | a :: l, h => by
    obtain ⟨h1, h2⟩ := List.nodup_cons.mp h
    refine List.nodup_cons.mpr ⟨fun hm => ?_, nd_map hf h2⟩
    obtain ⟨b, hb, e⟩ := List.mem_map.mp hm
    exact h1 (by rw [← hf _ _ e]; exact hb)
theorem nd_of_map {α β : Type} {f : α → β} : ∀ {l : List α}, (l.map f).Nodup → l.Nodup
  | [], _ => List.nodup_nil
  | a :: l, h => by
    obtain ⟨h1, h2⟩ := List.nodup_cons.mp h
    exact List.nodup_cons.mpr ⟨fun hm => h1 (List.mem_map_of_mem hm), nd_of_map h2⟩
theorem sortP_nd (l : List Stand) : (sortP l).Nodup := by
  refine nd_of_map (f := rowS) ?_
  rw [sortP_rows]
  exact (sort_perm _).nodup_iff.mpr (dedup_nd _)
theorem sortP_ext {l m : List Stand} (h : ∀ s, s ∈ l ↔ s ∈ m) : sortP l = sortP m := by
  have e : sortI (dedup (l.map rowS)) = sortI (dedup (m.map rowS)) := by
    refine sort_set ((sort_perm _).nodup_iff.mpr (dedup_nd _)) (fun r => ?_) (sort_up _)
    rw [(sort_perm _).mem_iff, dedup_mem, List.mem_map, List.mem_map]
    exact ⟨fun ⟨s, hs, e⟩ => ⟨s, (h s).mp hs, e⟩, fun ⟨s, hs, e⟩ => ⟨s, (h s).mpr hs, e⟩⟩
  unfold sortP
  rw [e]
theorem sortP_idem (l : List Stand) : sortP (sortP l) = sortP l := sortP_ext fun s => sortP_mem
theorem asInts_map' : ∀ r : List Int, asInts (r.map .int) = some r
  | [] => rfl
  | i :: r => by simp [asInts, asInts_map' r]
theorem rows_map : ∀ l : List Stand, rows (l.map Stand.d) = some (l.map rowS)
  | [] => rfl
  | s :: l => by
    have e : rowOf s.d = some (rowS s) := rfl
    simp only [List.map_cons, rows, e, Option.bind_some, rows_map l, Option.map_some]
/-- small numbers, so that it can be sorted -/
def Sm (s : Stand) : Prop := (-30 ≤ s.h ∧ s.h ≤ 30) ∧ (-30 ≤ s.m ∧ s.m ≤ 30) ∧ (-30 ≤ s.l ∧ s.l ≤ 30) ∧ -30 ≤ s.t ∧ s.t ≤ 30
theorem rowsOk_map {l : List Stand} (hl : l.length < 64) (h : ∀ s ∈ l, Sm s) : rowsOk (l.map rowS) = true := by
  unfold rowsOk
  rw [List.length_map, decide_eq_true hl, Bool.true_and]
  cases l with
  | nil => rfl
  | cons s l =>
    simp only [List.map_cons]
    rw [Bool.and_eq_true]
    refine ⟨by simp [rowS], ?_⟩
    rw [← List.map_cons (f := rowS)]
    rw [List.all_map, List.all_eq_true]
    intro x hx
    obtain ⟨a, b, c, d⟩ := h x hx
    simp [smallRow, rowS, a, b, c, d]
theorem ofRow_map (l : List Stand) : (l.map rowS).map ofRow = l.map Stand.d := by
  rw [List.map_map]; rfl
theorem sortSet_d {l : List Stand} (hl : l.length < 64) (h : ∀ s ∈ l, Sm s) : sortSetR (l.map Stand.d) = some ((sortP l).map Stand.d) := by
  unfold sortSetR
  rw [rows_map, Option.bind_some, if_pos (rowsOk_map hl h), ← sortP_rows, ofRow_map]
theorem sortR_d {l : List Stand} (nd : l.Nodup) (hl : l.length < 64) (h : ∀ s ∈ l, Sm s) : sortR (l.map Stand.d) = some ((sortP l).map Stand.d) := by
  unfold sortR
  rw [rows_map, Option.bind_some, if_pos (rowsOk_map hl h)]
  have e : sortI (l.map rowS) = sortI (dedup (l.map rowS)) := by
    refine sort_set ((sort_perm _).nodup_iff.mpr (nd_map (fun a b e => row_inj e) nd)) (fun x => (sort_perm _).mem_iff) (sort_up _)
  rw [e, ← sortP_rows, ofRow_map]
theorem fits_sm {p : Plan} (hp : p.Ok) {s : Stand} (hs : Fits p s) : Sm s := by
  obtain ⟨h1, h2, h3, h4⟩ := hp
  obtain ⟨g1, g2, g3, g4, g5⟩ := hs
  split at g5
  · obtain ⟨a, b, c, d, e⟩ := g5
    refine ⟨by omega, by omega, by omega, by omega, ?_⟩
    split at e
    · split at e <;> omega
    · omega
  · exact ⟨by omega, by omega, by omega, by omega, by omega⟩
/-- the stands behind a tick with a press or without, with somebody in the door or nobody -/
def nexts (p : Plan) (now : List Stand) (pr : Bool) : List Stand := now.flatMap fun s => [nxS p s ⟨pr, false, false⟩, nxS p s ⟨pr, true, false⟩]
def stepC (p : Plan) (now : List Stand) (x : Bool × Bool) : List Stand := (nexts p now x.1).filter fun s => lit p s == x.2
/-- each once, in the order of the first times -/
def once (acc : List Stand) (s : Stand) : List Stand := if s ∈ acc then acc else acc ++ [s]
def keysP (p : Plan) : List Stand := (ways p).map (·.1)
theorem keys_begin (p : Plan) : (⟨0, 0, 1, 0⟩ : Stand) ∈ keysP p := List.mem_map_of_mem (f := (·.1)) (begin_ways p)
def crowd (p : Plan) (past : List (Bool × Bool)) : List Stand := past.foldl (fun now x => sortP (stepC p now x)) (sortP (keysP p))
def lcrowd (p : Plan) (past : List (Bool × Bool)) : List Stand := past.foldl (fun now x => (stepC p now x).foldl once []) (keysP p)
theorem once_mem {s : Stand} : ∀ (l acc : List Stand), s ∈ l.foldl once acc ↔ s ∈ acc ∨ s ∈ l
  | [], acc => by simp
  | x :: l, acc => by
    rw [List.foldl_cons, once_mem l]
    unfold once
    split
    · rename_i h
      constructor
      · rintro (a | a)
        · exact .inl a
        · exact .inr (List.mem_cons_of_mem _ a)
      · rintro (a | a)
        · exact .inl a
        · rcases List.mem_cons.mp a with rfl | a
          · exact .inl h
          · exact .inr a
    · simp [or_assoc]
theorem once_nd : ∀ (l acc : List Stand), acc.Nodup → (l.foldl once acc).Nodup
  | [], acc, h => h
  | x :: l, acc, h => by
    rw [List.foldl_cons]
    refine once_nd l _ ?_
    unfold once
    split
    · exact h
    · rename_i hn
      exact List.nodup_append.mpr ⟨h, by simp, fun a ha b hb => by
        have e : b = x := by simpa using hb
        subst e
        exact fun z => hn (by rw [← z]; exact ha)⟩
theorem stepC_mem {p : Plan} {now now' : List Stand} {x : Bool × Bool} (h : ∀ s, s ∈ now ↔ s ∈ now') (s : Stand) : s ∈ stepC p now x ↔ s ∈ stepC p now' x := by
  unfold stepC nexts
  simp only [List.mem_filter, List.mem_flatMap]
  constructor
  · rintro ⟨⟨a, ha, q⟩, q2⟩; exact ⟨⟨a, (h a).mp ha, q⟩, q2⟩
  · rintro ⟨⟨a, ha, q⟩, q2⟩; exact ⟨⟨a, (h a).mpr ha, q⟩, q2⟩
theorem fold_same (p : Plan) : ∀ (past : List (Bool × Bool)) (a b : List Stand), (∀ s, s ∈ a ↔ s ∈ b) → ∀ s, s ∈ past.foldl (fun now x => sortP (stepC p now x)) a ↔ s ∈ past.foldl (fun now x => (stepC p now x).foldl once []) b
  | [], _, _, h => h
  | x :: past, a, b, h => by
    rw [List.foldl_cons, List.foldl_cons]
    refine fold_same p past _ _ fun s => ?_
    rw [sortP_mem, once_mem, stepC_mem h]
    simp
theorem fold_sorted (p : Plan) : ∀ (past : List (Bool × Bool)) (a : List Stand), sortP a = a → sortP (past.foldl (fun now x => sortP (stepC p now x)) a) = past.foldl (fun now x => sortP (stepC p now x)) a
  | [], _, h => h
  | x :: past, a, h => by
    rw [List.foldl_cons]
    exact fold_sorted p past _ (sortP_idem _)
theorem crowd_eq (p : Plan) (past : List (Bool × Bool)) : sortP (lcrowd p past) = crowd p past := by
  have h := fold_same p past (sortP (keysP p)) (keysP p) fun s => sortP_mem
  have e : sortP (lcrowd p past) = sortP (crowd p past) := sortP_ext fun s => (h s).symm
  rw [e]
  exact fold_sorted p past _ (sortP_idem _)
/-- a crowd of stands that fit, each once -/
structure Cd (p : Plan) (l : List Stand) : Prop where
  nd : l.Nodup
  fits : ∀ s ∈ l, Fits p s
theorem Cd.few {p : Plan} (hp : p.Ok) {l : List Stand} (c : Cd p l) : l.length ≤ 16 := Nat.le_trans (nodup_le c.nd fun s hs => fits_in p hp s (c.fits s hs)) (all_few p hp)
theorem keys_cd (p : Plan) (hp : p.Ok) : Cd p (keysP p) := ⟨(ways_ok p hp).gd.nd, fun s hs => by
  obtain ⟨x, hx, rfl⟩ := List.mem_map.mp hs
  exact (ways_ok p hp).fits x hx⟩
theorem Cd.sort {p : Plan} {l : List Stand} (h : ∀ s ∈ l, Fits p s) : Cd p (sortP l) := ⟨sortP_nd l, fun s hs => h s (sortP_mem.mp hs)⟩
theorem nexts_fits {p : Plan} (hp : p.Ok) {l : List Stand} (c : Cd p l) (pr : Bool) : ∀ s ∈ nexts p l pr, Fits p s := fun s hs => by
  obtain ⟨a, ha, q⟩ := List.mem_flatMap.mp hs
  have : s = nxS p a ⟨pr, false, false⟩ ∨ s = nxS p a ⟨pr, true, false⟩ := by simpa using q
  rcases this with rfl | rfl <;> exact fits_passed p hp a _ (c.fits a ha)
theorem nexts_len {p : Plan} {pr : Bool} : ∀ l : List Stand, (nexts p l pr).length = 2 * l.length
  | [] => rfl
  | s :: l => by
    have := nexts_len (p := p) (pr := pr) l
    unfold nexts at this ⊢
    rw [List.flatMap_cons, List.length_append, this]
    simp only [List.length_cons, List.length_nil]
    omega
theorem step_cd {p : Plan} (hp : p.Ok) {l : List Stand} (c : Cd p l) (x : Bool × Bool) : Cd p (sortP (stepC p l x)) := .sort fun s hs => nexts_fits hp c x.1 s (List.mem_filter.mp hs).1
theorem lstep_cd {p : Plan} (hp : p.Ok) {l : List Stand} (c : Cd p l) (x : Bool × Bool) : Cd p ((stepC p l x).foldl once []) := ⟨once_nd _ _ List.nodup_nil, fun s hs => by
  rcases (once_mem _ _).mp hs with h | h
  · cases h
  · exact nexts_fits hp c x.1 s (List.mem_filter.mp h).1⟩
theorem step_in {p : Plan} {l : List Stand} {s : Stand} (hs : s ∈ l) (pr sb : Bool) : nxS p s ⟨pr, sb, false⟩ ∈ sortP (stepC p l (pr, lit p (nxS p s ⟨pr, sb, false⟩))) := by
  rw [sortP_mem]
  unfold stepC
  refine List.mem_filter.mpr ⟨List.mem_flatMap.mpr ⟨s, hs, ?_⟩, by simp⟩
  cases sb <;> simp
theorem crowd_snoc (p : Plan) (past : List (Bool × Bool)) (x : Bool × Bool) : crowd p (past ++ [x]) = sortP (stepC p (crowd p past) x) := by
  unfold crowd
  rw [List.foldl_append]; rfl
end Ev

namespace Ev
open PySem
section
variable {α γ : Type} [DecidableEq α] (nx : α → γ → α) (cs : List γ) (goal : α → Bool)
/-- a queue with repetitions; what was met is skipped -/
def fifo : Nat → List (α × List γ) → List α → Option (List γ)
  | 0, _, _ => none
  | _ + 1, [], _ => none
  | n + 1, (c, r) :: Q, met => if c ∈ met then fifo n Q met else if goal c = true then some r else fifo n (Q ++ cs.map fun g => (nx c g, r ++ [g])) (met ++ [c])
def firsts : List α → List (α × List γ) → List (α × List γ)
  | _, [] => []
  | met, (c, r) :: Q => if c ∈ met then firsts met Q else (c, r) :: firsts (met ++ [c]) Q
theorem firsts_snoc : ∀ (Q : List (α × List γ)) (met : List α) (x : α × List γ), firsts met (Q ++ [x]) = firsts met Q ++ (if x.1 ∈ met ∨ x.1 ∈ Q.map (·.1) then [] else [x])
  | [], met, (c, r) => by
    simp only [List.nil_append, firsts, List.map_nil, List.not_mem_nil, or_false]
  | (c, r) :: Q, met, x => by
    simp only [List.cons_append, firsts]
    by_cases h : c ∈ met
    · rw [if_pos h, if_pos h, firsts_snoc Q met x]
      congr 1
      have : (x.1 ∈ met ∨ x.1 ∈ ((c, r) :: Q).map (·.1)) ↔ (x.1 ∈ met ∨ x.1 ∈ Q.map (·.1)) := by
        simp only [List.map_cons, List.mem_cons]
        constructor
        · rintro (a | a | a)
          · exact .inl a
          · exact .inl (by rw [a]; exact h)
          · exact .inr a
        · rintro (a | a)
          · exact .inl a
          · exact .inr (.inr a)
      simp only [this]
    · rw [if_neg h, if_neg h, firsts_snoc Q (met ++ [c]) x, List.cons_append]
      congr 2
      have : (x.1 ∈ met ++ [c] ∨ x.1 ∈ Q.map (·.1)) ↔ (x.1 ∈ met ∨ x.1 ∈ ((c, r) :: Q).map (·.1)) := by
        simp [or_assoc]
      simp only [this]
/-- fuel enough -/
def Fu (B n : Nat) (Q : List (α × List γ)) (met : List α) : Prop := Q.length + 2 * (B - met.length) < n
variable {nx cs goal}
/-- what is met is in S, each once -/
structure Mts (S : List α) (Q : List (α × List γ)) (met : List α) : Prop where
  nd : met.Nodup
  sub : ∀ c ∈ met, c ∈ S
  qs : ∀ x ∈ Q, x.1 ∈ S
theorem Mts.new {S : List α} {Q : List (α × List γ)} {met : List α} {c : α} {r : List γ} (m : Mts S ((c, r) :: Q) met) (hc : c ∉ met) (hn : ∀ g ∈ cs, nx c g ∈ S) : Mts S (Q ++ cs.map fun g => (nx c g, r ++ [g])) (met ++ [c]) := by
  refine ⟨?_, fun a ha => ?_, fun x hx => ?_⟩
  · exact List.nodup_append.mpr ⟨m.nd, by simp, fun a ha b hb => by
      have e : b = c := by simpa using hb
      subst e
      exact fun z => hc (by rw [← z]; exact ha)⟩
  · rcases List.mem_append.mp ha with h | h
    · exact m.sub a h
    · have e : a = c := by simpa using h
      subst e
      exact m.qs _ List.mem_cons_self
  · rcases List.mem_append.mp hx with h | h
    · exact m.qs x (List.mem_cons_of_mem _ h)
    · obtain ⟨g, hg, rfl⟩ := List.mem_map.mp h
      exact hn g hg
theorem Mts.skip {S : List α} {Q : List (α × List γ)} {met : List α} {x : α × List γ} (m : Mts S (x :: Q) met) : Mts S Q met := ⟨m.nd, m.sub, fun y hy => m.qs y (List.mem_cons_of_mem _ hy)⟩
theorem Mts.few {S : List α} {Q : List (α × List γ)} {met : List α} (m : Mts S Q met) : met.length ≤ S.length := nodup_le m.nd m.sub
theorem Mts.few1 {S : List α} {Q : List (α × List γ)} {met : List α} {c : α} {r : List γ} (m : Mts S ((c, r) :: Q) met) (hc : c ∉ met) : met.length + 1 ≤ S.length := by
  have := nodup_le (l := c :: met) (m := S) (List.nodup_cons.mpr ⟨hc, m.nd⟩) fun a ha => by
    rcases List.mem_cons.mp ha with rfl | ha
    · exact m.qs _ List.mem_cons_self
    · exact m.sub a ha
  simpa using this
theorem Fu.skip {B n : Nat} {Q : List (α × List γ)} {met : List α} {x : α × List γ} (h : Fu B (n + 1) (x :: Q) met) : Fu B n Q met := by
  unfold Fu at *
  simp only [List.length_cons] at h
  omega
theorem Fu.new {B n : Nat} {Q : List (α × List γ)} {met : List α} {x : α × List γ} {c : α} {l : List (α × List γ)} (h : Fu B (n + 1) (x :: Q) met) (hl : l.length ≤ 2) (hB : met.length + 1 ≤ B) : Fu B n (Q ++ l) (met ++ [c]) := by
  unfold Fu at *
  simp only [List.length_cons, List.length_append, List.length_nil] at *
  omega
/-- the queue whose head is new -/
theorem to_new {S : List α} {B : Nat} {due : Option (List γ)} : ∀ (Q : List (α × List γ)) (n : Nat) (met : List α), Fu B n Q met → fifo nx cs goal n Q met = due → Mts S Q met →
    (firsts met Q = [] ∧ due = none ∧ ∀ x ∈ Q, x.1 ∈ met) ∨ ∃ c r Q' n', firsts met Q = (c, r) :: firsts (met ++ [c]) Q' ∧ c ∉ met ∧ Fu B n' ((c, r) :: Q') met ∧ fifo nx cs goal n' ((c, r) :: Q') met = due ∧ Mts S ((c, r) :: Q') met ∧ (∀ a, (a ∈ met ∨ a ∈ Q.map (·.1)) ↔ (a ∈ met ∨ a ∈ ((c, r) :: Q').map (·.1))) ∧ (c, r) ∈ Q
  | [], n, met, h, e, m => by
    refine .inl ⟨rfl, ?_, fun x hx => nomatch hx⟩
    cases n <;> exact e.symm
  | (c, r) :: Q, n, met, h, e, m => by
    cases n with
    | zero => exact absurd h (by unfold Fu; omega)
    | succ n =>
      by_cases hc : c ∈ met
      · have e' : fifo nx cs goal n Q met = due := by rw [← e]; simp only [fifo, if_pos hc]
        rcases to_new Q n met h.skip e' m.skip with ⟨a1, a2, a3⟩ | ⟨c', r', Q', n', a1, a2, a3, a4, a5, a6, a7⟩
        · refine .inl ⟨by simp only [firsts, if_pos hc, a1], a2, fun x hx => ?_⟩
          rcases List.mem_cons.mp hx with rfl | hx
          · exact hc
          · exact a3 x hx
        · refine .inr ⟨c', r', Q', n', by simp only [firsts, if_pos hc, a1], a2, a3, a4, a5, fun a => ?_, List.mem_cons_of_mem _ a7⟩
          rw [← a6]
          simp only [List.map_cons, List.mem_cons]
          constructor
          · rintro (b | b | b)
            · exact .inl b
            · exact .inl (by rw [b]; exact hc)
            · exact .inr b
          · rintro (b | b)
            · exact .inl b
            · exact .inr (.inr b)
      · exact .inr ⟨c, r, Q, n + 1, by simp only [firsts, if_neg hc], hc, h, e, m, fun a => Iff.rfl, List.mem_cons_self⟩
/-- what was found so far, against the queue -/
structure RelQ (W : List (α × List γ)) (i : Nat) (Q : List (α × List γ)) (met : List α) : Prop where
  le : i ≤ W.length
  rest : W.drop i = firsts met Q
  keys : ∀ a, a ∈ W.map (·.1) ↔ (a ∈ met ∨ a ∈ Q.map (·.1))
theorem RelQ.add {W : List (α × List γ)} {i : Nat} {Q : List (α × List γ)} {met : List α} (h : RelQ W i Q met) (s : α) (r : List γ) (c : γ) : RelQ (addW nx s r W c) i (Q ++ [(nx s c, r ++ [c])]) met := by
  unfold addW
  by_cases hm : nx s c ∈ W.map (·.1)
  · rw [if_pos hm]
    refine ⟨h.le, ?_, fun a => ?_⟩
    · rw [firsts_snoc, if_pos ((h.keys _).mp hm), List.append_nil, h.rest]
    · rw [h.keys, List.map_append, List.mem_append, List.map_cons, List.map_nil, List.mem_singleton]
      constructor
      · rintro (b | b)
        · exact .inl b
        · exact .inr (.inl b)
      · rintro (b | b | b)
        · exact .inl b
        · exact .inr b
        · rw [b]; exact (h.keys _).mp hm
  · rw [if_neg hm]
    refine ⟨by rw [List.length_append]; have := h.le; omega, ?_, fun a => ?_⟩
    · rw [firsts_snoc, if_neg (fun z => hm ((h.keys _).mpr z)), List.drop_append_of_le_length h.le, h.rest]
    · rw [List.map_append, List.mem_append, h.keys, List.map_append, List.mem_append, or_assoc]
      try rfl
theorem RelQ.fold {i : Nat} {met : List α} (s : α) (r : List γ) : ∀ (cs : List γ) {W Q : List (α × List γ)}, RelQ W i Q met → RelQ (cs.foldl (addW nx s r) W) i (Q ++ cs.map fun g => (nx s g, r ++ [g])) met
  | [], W, Q, h => by simpa using h
  | c :: cs, W, Q, h => by
    have := RelQ.fold s r cs (h.add (nx := nx) s r c)
    rw [List.append_assoc] at this
    exact this
/-- a turn of the walk that meets each once -/
theorem RelQ.pop {S : List α} {B n : Nat} {due : Option (List γ)} {W : List (α × List γ)} {i : Nat} {Q : List (α × List γ)} {met : List α} (h : RelQ W i Q met) (f : Fu B n Q met) (e : fifo nx cs goal n Q met = due) (m : Mts S Q met) (hS : S.length ≤ B) (hcs : cs.length ≤ 2) (hcl : ∀ a ∈ S, ∀ g ∈ cs, nx a g ∈ S) :
    (W.length ≤ i ∧ due = none) ∨ ∃ c r, W[i]? = some (c, r) ∧ ((goal c = true ∧ due = some r) ∨ (goal c = false ∧ ∃ n' Q' met', RelQ (stepW nx cs W i) (i + 1) Q' met' ∧ Fu B n' Q' met' ∧ fifo nx cs goal n' Q' met' = due ∧ Mts S Q' met')) := by
  rcases to_new Q n met f e m with ⟨a1, a2, _⟩ | ⟨c, r, Q', n', a1, a2, a3, a4, a5, a6, _⟩
  · left
    refine ⟨?_, a2⟩
    have := h.rest
    rw [a1] at this
    exact List.drop_eq_nil_iff.mp this
  · right
    have hd : W.drop i = (c, r) :: firsts (met ++ [c]) Q' := h.rest.trans a1
    have hi : i < W.length := by
      have := congrArg List.length hd
      rw [List.length_drop, List.length_cons] at this
      omega
    have hget : W[i]? = some (c, r) := by
      rw [List.getElem?_eq_getElem hi]
      rw [List.drop_eq_getElem_cons hi] at hd
      exact congrArg some (List.cons.inj hd).1
    refine ⟨c, r, hget, ?_⟩
    cases n' with
    | zero => exact absurd a3 (by unfold Fu; omega)
    | succ n' =>
      simp only [fifo, if_neg a2] at a4
      cases hg : goal c with
      | true =>
        rw [hg, if_pos rfl] at a4
        exact .inl ⟨rfl, a4.symm⟩
      | false =>
        rw [hg, if_neg (by simp)] at a4
        refine .inr ⟨rfl, n', _, _, ?_, a3.new (by simpa using hcs) (Nat.le_trans (a5.few1 a2) hS), a4, a5.new a2 (hcl c (a5.qs _ List.mem_cons_self))⟩
        have base : RelQ W (i + 1) Q' (met ++ [c]) := by
          refine ⟨hi, ?_, fun a => ?_⟩
          · rw [List.drop_eq_getElem_cons hi] at hd
            exact (List.cons.inj hd).2
          · rw [h.keys, a6]
            simp [or_assoc]
        have est : stepW nx cs W i = cs.foldl (addW nx c r) W := by unfold stepW; rw [hget]
        rw [est]
        exact base.fold c r cs
def reach (nx : α → γ → α) (a : α) (r : List γ) : α := r.foldl nx a
structure Wide (nx : α → γ → α) (cs : List γ) (goal : α → Bool) (a0 : α) (k : Nat) (Q1 Q2 : List (α × List γ)) (met : List α) : Prop where
  no : ∀ c ∈ met, goal c = false
  cl : ∀ c ∈ met, ∀ g ∈ cs, nx c g ∈ met ∨ nx c g ∈ Q1.map (·.1) ∨ nx c g ∈ Q2.map (·.1)
  at1 : ∀ x ∈ Q1, reach nx a0 x.2 = x.1 ∧ x.2.length = k
  at2 : ∀ x ∈ Q2, reach nx a0 x.2 = x.1 ∧ x.2.length = k + 1
  lt : ∀ r : List γ, (∀ g ∈ r, g ∈ cs) → r.length < k → reach nx a0 r ∈ met
  eq : ∀ r : List γ, (∀ g ∈ r, g ∈ cs) → r.length = k → reach nx a0 r ∈ met ∨ reach nx a0 r ∈ Q1.map (·.1)
theorem reach_snoc {a : α} {r : List γ} {g : γ} : reach nx a (r ++ [g]) = nx (reach nx a r) g := by unfold reach; rw [List.foldl_append]; rfl
theorem Wide.next {a0 : α} {k : Nat} {Q2 : List (α × List γ)} {met : List α} (h : Wide nx cs goal a0 k [] Q2 met) : Wide nx cs goal a0 (k + 1) Q2 [] met where
  no := h.no
  cl := fun c hc g hg => by
    rcases h.cl c hc g hg with a | a | a
    · exact .inl a
    · cases a
    · exact .inr (.inl a)
  at1 := h.at2
  at2 := fun x hx => nomatch hx
  lt := fun r hr hl => by
    by_cases e : r.length = k
    · rcases h.eq r hr e with a | a
      · exact a
      · cases a
    · exact h.lt r hr (by omega)
  eq := fun r hr hl => by
    have hne : r ≠ [] := fun z => by rw [z] at hl; simp at hl
    have e : r.dropLast ++ [r.getLast hne] = r := List.dropLast_concat_getLast hne
    have hr' : ∀ g ∈ r.dropLast, g ∈ cs := fun g hg => hr g ((List.dropLast_sublist r).subset hg)
    have hl' : r.dropLast.length = k := by rw [List.length_dropLast]; omega
    have hm : reach nx a0 r.dropLast ∈ met := by
      rcases h.eq _ hr' hl' with a | a
      · exact a
      · cases a
    rw [← e, reach_snoc]
    rcases h.cl _ hm _ (hr _ (List.getLast_mem hne)) with a | a | a
    · exact .inl a
    · cases a
    · exact .inr a
theorem wide_fifo {S : List α} {B : Nat} {a0 : α} (hS : S.length ≤ B) (hcs : cs.length ≤ 2) (hcl : ∀ a ∈ S, ∀ g ∈ cs, nx a g ∈ S) : ∀ (n k : Nat) (Q1 Q2 : List (α × List γ)) (met : List α), Fu B n (Q1 ++ Q2) met → Mts S (Q1 ++ Q2) met → Wide nx cs goal a0 k Q1 Q2 met →
    match fifo nx cs goal n (Q1 ++ Q2) met with
    | some r => goal (reach nx a0 r) = true ∧ ∀ r' : List γ, (∀ g ∈ r', g ∈ cs) → r'.length < r.length → goal (reach nx a0 r') = false
    | none => ∀ r' : List γ, (∀ g ∈ r', g ∈ cs) → goal (reach nx a0 r') = false
  | 0, _, _, _, _, f, _, _ => absurd f (by unfold Fu; omega)
  | n + 1, k, [], [], met, f, m, h => by
    show ∀ r' : List γ, _
    have key : ∀ (j : Nat) (r' : List γ), (∀ g ∈ r', g ∈ cs) → r'.length < k + j → reach nx a0 r' ∈ met := by
      have W : ∀ j, Wide nx cs goal a0 (k + j) [] [] met := fun j => by
        induction j with
        | zero => exact h
        | succ j ih => exact ih.next
      exact fun j r' hr hl => (W j).lt r' hr hl
    exact fun r' hr => h.no _ (key (r'.length + 1) r' hr (by omega))
  | n + 1, k, [], x :: Q2, met, f, m, h => by
    have := wide_fifo_cons hS hcs hcl n (k + 1) x Q2 [] met (by simpa using f) (by simpa using m) h.next
    simpa using this
  | n + 1, k, x :: Q1, Q2, met, f, m, h => wide_fifo_cons hS hcs hcl n k x Q1 Q2 met f m h
where
  wide_fifo_cons {S : List α} {B : Nat} {a0 : α} (hS : S.length ≤ B) (hcs : cs.length ≤ 2) (hcl : ∀ a ∈ S, ∀ g ∈ cs, nx a g ∈ S) (n k : Nat) (x : α × List γ) (Q1 Q2 : List (α × List γ)) (met : List α) (f : Fu B (n + 1) (x :: Q1 ++ Q2) met) (m : Mts S (x :: Q1 ++ Q2) met) (h : Wide nx cs goal a0 k (x :: Q1) Q2 met) :
    match fifo nx cs goal (n + 1) (x :: Q1 ++ Q2) met with
    | some r => goal (reach nx a0 r) = true ∧ ∀ r' : List γ, (∀ g ∈ r', g ∈ cs) → r'.length < r.length → goal (reach nx a0 r') = false
    | none => ∀ r' : List γ, (∀ g ∈ r', g ∈ cs) → goal (reach nx a0 r') = false := by
    obtain ⟨c, r⟩ := x
    obtain ⟨hc1, hc2⟩ := h.at1 (c, r) List.mem_cons_self
    simp only at hc1 hc2
    simp only [List.cons_append] at f m ⊢
    simp only [fifo]
    by_cases hc : c ∈ met
    · rw [if_pos hc]
      refine wide_fifo hS hcs hcl n k Q1 Q2 met f.skip m.skip ⟨h.no, fun a ha g hg => ?_, fun y hy => h.at1 y (List.mem_cons_of_mem _ hy), h.at2, h.lt, fun r' hr hl => ?_⟩
      · rcases h.cl a ha g hg with q | q | q
        · exact .inl q
        · rw [List.map_cons] at q
          rcases List.mem_cons.mp q with q | q
          · exact .inl (by rw [q]; exact hc)
          · exact .inr (.inl q)
        · exact .inr (.inr q)
      · rcases h.eq r' hr hl with q | q
        · exact .inl q
        · rw [List.map_cons] at q
          rcases List.mem_cons.mp q with q | q
          · exact .inl (by rw [q]; exact hc)
          · exact .inr q
    · rw [if_neg hc]
      cases hg : goal c with
      | true =>
        rw [if_pos rfl]
        exact ⟨by rw [hc1]; exact hg, fun r' hr hl => h.no _ (h.lt r' hr (by omega))⟩
      | false =>
        rw [if_neg (by simp)]
        have ea : Q1 ++ Q2 ++ (cs.map fun g => (nx c g, r ++ [g])) = Q1 ++ (Q2 ++ cs.map fun g => (nx c g, r ++ [g])) := List.append_assoc ..
        rw [ea]
        have f' := f.new (l := cs.map fun g => (nx c g, r ++ [g])) (c := c) (by simpa using hcs) (Nat.le_trans (m.few1 hc) hS)
        have m' := m.new (nx := nx) (cs := cs) hc (hcl c (m.qs _ List.mem_cons_self))
        rw [ea] at f' m'
        refine wide_fifo hS hcs hcl n k Q1 _ (met ++ [c]) f' m' ⟨fun a ha => ?_, fun a ha g hg' => ?_, fun y hy => h.at1 y (List.mem_cons_of_mem _ hy), fun y hy => ?_, fun r' hr hl => List.mem_append_left _ (h.lt r' hr hl), fun r' hr hl => ?_⟩
        · rcases List.mem_append.mp ha with q | q
          · exact h.no a q
          · have e : a = c := by simpa using q
            rw [e]; exact hg
        · rcases List.mem_append.mp ha with q | q
          · rcases h.cl a q g hg' with q | q | q
            · exact .inl (List.mem_append_left _ q)
            · rw [List.map_cons] at q
              rcases List.mem_cons.mp q with q | q
              · exact .inl (by rw [q]; simp)
              · exact .inr (.inl q)
            · exact .inr (.inr (by rw [List.map_append]; exact List.mem_append_left _ q))
          · have e : a = c := by simpa using q
            subst e
            refine .inr (.inr ?_)
            rw [List.map_append, List.map_map]
            exact List.mem_append_right _ (List.mem_map.mpr ⟨g, hg', rfl⟩)
        · rcases List.mem_append.mp hy with q | q
          · exact h.at2 y q
          · obtain ⟨g, hg', rfl⟩ := List.mem_map.mp q
            exact ⟨by rw [reach_snoc, hc1], by simp [hc2]⟩
        · rcases h.eq r' hr hl with q | q
          · exact .inl (List.mem_append_left _ q)
          · rw [List.map_cons] at q
            rcases List.mem_cons.mp q with q | q
            · exact .inl (by rw [q]; simp)
            · exact .inr q
end
end Ev

namespace Ev
open PySem
/-- a crowd and a row as data -/
def crD (l : List Stand) : D := .tup (l.map Stand.d)
def rwD (r : List Bool) : D := .tup (r.map .bl)
theorem eqvs_st : ∀ a b : List Stand, D.eqvs (a.map Stand.d) (b.map Stand.d) = decide (a = b)
  | [], [] => rfl
  | [], _ :: _ => rfl
  | _ :: _, [] => rfl
  | x :: a, y :: b => by
    simp only [List.map_cons, D.eqvs, kd_stand.eqv, eqvs_st a b, List.cons.injEq]
    rw [Bool.eq_iff_iff]; simp
theorem tkeys_st (n : Nat) : ∀ a : List Stand, tkeys (n + 1) (a.map Stand.d) = true
  | [] => rfl
  | x :: a => by simp [tkeys, tkeys_st n a, Stand.d, tkey]
theorem kd_crowd : KdOk crD where
  eqv := fun a b => by simp only [crD, D.eqv, eqvs_st]
  fits := fun a => by simp [crD, keyFits, keyOk, isStr, tkeys_st 6 a]
theorem fits_of_all (p : Plan) (hp : p.Ok) : ∀ s ∈ allStands p.lift p.clock, Fits p s := by
  obtain ⟨h1, h2, h3, h4⟩ := hp
  intro s hs
  unfold allStands at hs
  simp only [List.mem_flatMap, List.mem_append, List.mem_range, List.mem_map, List.mem_cons, List.not_mem_nil, or_false] at hs
  obtain ⟨h, hh, hs⟩ := hs
  have hh2 : (h : Int) ≤ p.lift := by omega
  rcases hs with ⟨l, hl, t, ht, rfl⟩ | hs
  · have ht2 : (t : Int) < (if (h : Int) = p.lift then (if p.clock > 1 then p.clock else 1) else 1) := by omega
    refine ⟨by show (0 : Int) ≤ h; omega, hh2, by show (-1 : Int) ≤ 0; decide, by show (0 : Int) ≤ 1; decide, ?_⟩
    simp only [if_true]
    refine ⟨by omega, by omega, by omega, by omega, ?_⟩
    split at ht2 <;> rename_i z
    · rw [if_pos z]; split at ht2 <;> split <;> omega
    · rw [if_neg z]; omega
  · split at hs
    · rename_i z
      simp only [List.mem_cons, List.not_mem_nil, or_false] at hs
      obtain ⟨za, zb⟩ := z
      rcases hs with rfl | rfl
      · exact ⟨by show (0 : Int) ≤ h; omega, hh2, by show (-1 : Int) ≤ -1; decide, by show (-1 : Int) ≤ 1; decide, by simp; omega⟩
      · exact ⟨by show (0 : Int) ≤ h; omega, hh2, by show (-1 : Int) ≤ 1; decide, by show (1 : Int) ≤ 1; decide, by simp; omega⟩
    · simp at hs
def subs {α : Type} : List α → List (List α)
  | [] => [[]]
  | a :: l => subs l ++ (subs l).map (a :: ·)
theorem subs_len {α : Type} : ∀ l : List α, (subs l).length = 2 ^ l.length
  | [] => rfl
  | a :: l => by
    simp only [subs, List.length_append, List.length_map, subs_len l, List.length_cons]
    omega
theorem filter_subs {α : Type} (q : α → Bool) : ∀ l : List α, l.filter q ∈ subs l
  | [] => by simp [subs]
  | a :: l => by
    rw [List.filter_cons]
    simp only [subs, List.mem_append, List.mem_map]
    split
    · exact .inr ⟨_, filter_subs q l, rfl⟩
    · exact .inl (filter_subs q l)
theorem subs_sub {α : Type} : ∀ (l : List α), ∀ m ∈ subs l, ∀ x ∈ m, x ∈ l
  | [], m, hm, x, hx => by
    have e : m = [] := by simpa [subs] using hm
    rw [e] at hx; cases hx
  | a :: l, m, hm, x, hx => by
    simp only [subs, List.mem_append, List.mem_map] at hm
    rcases hm with h | ⟨m', h, rfl⟩
    · exact List.mem_cons_of_mem _ (subs_sub l m h x hx)
    · rcases List.mem_cons.mp hx with rfl | hx
      · exact List.mem_cons_self
      · exact List.mem_cons_of_mem _ (subs_sub l m' h x hx)
/-- all crowds of stands that fit -/
def allC (p : Plan) : List (List Stand) := (subs (allStands p.lift p.clock)).map sortP
theorem allC_len (p : Plan) (hp : p.Ok) : (allC p).length ≤ 65536 := by
  unfold allC
  rw [List.length_map, subs_len]
  have := Nat.pow_le_pow_right (n := 2) (by decide) (all_few p hp)
  exact Nat.le_trans this (by decide)
theorem allC_in (p : Plan) (hp : p.Ok) {l : List Stand} (h : ∀ s ∈ l, Fits p s) : sortP l ∈ allC p := by
  unfold allC
  refine List.mem_map.mpr ⟨_, filter_subs (fun s => decide (s ∈ l)) _, sortP_ext fun s => ?_⟩
  rw [List.mem_filter, decide_eq_true_eq]
  exact ⟨fun z => z.2, fun z => ⟨fits_in p hp s (h s z), z⟩⟩
theorem allC_cd (p : Plan) (hp : p.Ok) {c : List Stand} (h : c ∈ allC p) : Cd p c := by
  obtain ⟨m, hm, rfl⟩ := List.mem_map.mp h
  exact .sort fun s hs => fits_of_all p hp s (subs_sub _ m hm s hs)
/-- the crowd behind a tick -/
def led (p : Plan) (l : List Stand) (pr : Bool) : List Stand := sortP (l.map fun s => nxS p s ⟨pr, false, false⟩)
def shut (l : List Stand) : Bool := l.all fun s => decide (s.h = 0) && decide (s.m = 0)
theorem led_in (p : Plan) (hp : p.Ok) {l : List Stand} (h : l ∈ allC p) (pr : Bool) : led p l pr ∈ allC p := by
  refine allC_in p hp fun s hs => ?_
  obtain ⟨a, ha, rfl⟩ := List.mem_map.mp hs
  exact fits_passed p hp a _ ((allC_cd p hp h).fits a ha)
theorem led_cl (p : Plan) (hp : p.Ok) : ∀ a ∈ allC p, ∀ g ∈ [false, true], led p a g ∈ allC p := fun a ha g _ => led_in p hp ha g
def first (p : Plan) : List Stand := sortP (keysP p)
theorem first_in (p : Plan) (hp : p.Ok) : first p ∈ allC p := allC_in p hp (keys_cd p hp).fits
/-- the first shortest row, or none -/
@[irreducible] def dueRow (p : Plan) : Option (List Bool) := fifo (led p) [false, true] shut 131080 [(first p, [])] []
theorem due_eq (p : Plan) : fifo (led p) [false, true] shut 131080 [(first p, [])] [] = dueRow p := by
  unfold dueRow
  exact rfl
theorem first_mts (p : Plan) (hp : p.Ok) : Mts (allC p) [(first p, ([] : List Bool))] [] := ⟨List.nodup_nil, fun c h => (by cases h), fun x hx => by
  have e : x = (first p, []) := by simpa using hx
  subst e
  exact first_in p hp⟩
theorem first_fu (p : Plan) : Fu 65536 131080 [(first p, ([] : List Bool))] [] := by
  unfold Fu
  simp
theorem due_ok (p : Plan) (hp : p.Ok) : match dueRow p with
    | some r => shut (reach (led p) (first p) r) = true ∧ ∀ r' : List Bool, r'.length < r.length → shut (reach (led p) (first p) r') = false
    | none => ∀ r' : List Bool, shut (reach (led p) (first p) r') = false := by
  have h := wide_fifo (nx := led p) (cs := [false, true]) (goal := shut) (B := 65536) (a0 := first p) (allC_len p hp) (by decide) (led_cl p hp) 131080 0 [(first p, [])] [] [] (first_fu p) (first_mts p hp) ⟨fun c h => (by cases h), fun c h => (by cases h), fun x hx => by
    have e : x = (first p, []) := by simpa using hx
    subst e
    exact ⟨rfl, rfl⟩, fun x hx => (by cases hx), fun r _ hl => by omega, fun r _ hl => by
    have e : r = [] := List.length_eq_zero_iff.mp hl
    subst e
    exact .inr (by simp [reach])⟩
  have all : ∀ r : List Bool, ∀ g ∈ r, g ∈ [false, true] := fun r g _ => by cases g <;> simp
  rw [List.append_nil, due_eq] at h
  cases hd : dueRow p with
  | some r =>
    rw [hd] at h
    exact ⟨h.1, fun r' hl => h.2 r' (all r') hl⟩
  | none =>
    rw [hd] at h
    exact fun r' => h r' (all r')
/-- a row that is found is no longer than there are crowds -/
theorem fifo_len {α γ : Type} [DecidableEq α] {nx : α → γ → α} {cs : List γ} {goal : α → Bool} {S : List α} {B : Nat} (hS : S.length ≤ B) (hcl : ∀ a ∈ S, ∀ g ∈ cs, nx a g ∈ S) : ∀ (n : Nat) (Q : List (α × List γ)) (met : List α) (r : List γ), Mts S Q met → (∀ x ∈ Q, x.2.length ≤ met.length) → fifo nx cs goal n Q met = some r → r.length ≤ B
  | 0, _, _, _, _, _, e => by simp [fifo] at e
  | n + 1, [], _, _, _, _, e => by simp [fifo] at e
  | n + 1, (c, r0) :: Q, met, r, m, h, e => by
    simp only [fifo] at e
    split at e
    · exact fifo_len hS hcl n Q met r m.skip (fun x hx => h x (List.mem_cons_of_mem _ hx)) e
    · rename_i hc
      split at e
      · cases e
        have := h _ List.mem_cons_self
        have := m.few
        simp only at *
        omega
      · refine fifo_len hS hcl n _ _ r (m.new hc (hcl c (m.qs _ List.mem_cons_self))) (fun x hx => ?_) e
        rw [List.length_append, List.length_singleton]
        rcases List.mem_append.mp hx with hx | hx
        · have := h x (List.mem_cons_of_mem _ hx); omega
        · obtain ⟨g, _, rfl⟩ := List.mem_map.mp hx
          have := h _ List.mem_cons_self
          simp only [List.length_append, List.length_singleton] at this ⊢
          omega
theorem due_len (p : Plan) (hp : p.Ok) {r : List Bool} (h : dueRow p = some r) : r.length ≤ 65536 := by
  rw [← due_eq] at h
  exact fifo_len (allC_len p hp) (led_cl p hp) _ _ _ r (first_mts p hp) (fun x hx => by
    have e : x = (first p, ([] : List Bool)) := by simpa using hx
    subst e
    exact Nat.le_refl _) h
theorem bfs_first (p : Plan) (x : Stand × List Choice) (h : x ∈ stepW (nxS p) allChoices [(⟨0, 0, 1, 0⟩, [])] 0) : x ∈ ways p := by
  rw [← ways_eq]
  unfold bfs
  rw [if_pos (by simp)]
  exact start_in p 19 1 _ x h
theorem open_in (p : Plan) (hp : p.Ok) : ∃ s ∈ keysP p, s.h ≠ 0 := by
  obtain ⟨h1, h2, h3, h4⟩ := hp
  have e : nxS p ⟨0, 0, 1, 0⟩ ⟨true, false, false⟩ ∈ keysP p := by
    have hf : ∀ (cs : List Choice) (W : List (Stand × List Choice)) (c : Choice), c ∈ cs ∨ nxS p ⟨0, 0, 1, 0⟩ c ∈ W.map (·.1) → nxS p ⟨0, 0, 1, 0⟩ c ∈ (cs.foldl (addW (nxS p) ⟨0, 0, 1, 0⟩ []) W).map (·.1) := by
      intro cs
      induction cs with
      | nil =>
        rintro W c (h | h)
        · cases h
        · exact h
      | cons a cs ih =>
        intro W c h
        rw [List.foldl_cons]
        refine ih _ c ?_
        rcases h with h | h
        · rcases List.mem_cons.mp h with rfl | h
          · right
            unfold addW
            split
            · assumption
            · rw [List.map_append]; exact List.mem_append_right _ (by simp)
          · exact .inl h
        · right
          obtain ⟨y, hy, e⟩ := List.mem_map.mp h
          rw [← e]
          exact List.mem_map_of_mem (f := (·.1)) (addW_mem hy)
    have := hf allChoices [(⟨0, 0, 1, 0⟩, [])] ⟨true, false, false⟩ (.inl (by simp [allChoices]))
    obtain ⟨y, hy, e⟩ := List.mem_map.mp this
    rw [← e]
    exact List.mem_map_of_mem (f := (·.1)) (bfs_first p y (by unfold stepW; exact hy))
  refine ⟨_, e, ?_⟩
  have key : (nxS p ⟨0, 0, 1, 0⟩ ⟨true, false, false⟩).h = clip p.lift (0 + 1) := by
    simp only [nxS, passed, ordered, move, if_true, Bool.false_eq_true, if_false]
    simp
    split <;> rfl
  rw [key]
  unfold clip
  split <;> split <;> omega
theorem due_ne (p : Plan) (hp : p.Ok) : dueRow p ≠ some [] := fun e => by
  have h := due_ok p hp
  rw [e] at h
  obtain ⟨s, hs, hne⟩ := open_in p hp
  have h1 : shut (first p) = true := h.1
  have := List.all_eq_true.mp h1 s (sortP_mem.mpr hs)
  simp only [Bool.and_eq_true, decide_eq_true_eq] at this
  exact hne this.1
/-- a stand's own way along a row stays in the crowd -/
def alone (p : Plan) (s : Stand) (r : List Bool) : Stand := r.foldl (fun s pr => nxS p s ⟨pr, false, false⟩) s
theorem alone_in (p : Plan) : ∀ (r : List Bool) (l : List Stand) (s : Stand), s ∈ l → alone p s r ∈ reach (led p) l r
  | [], l, s, h => h
  | g :: r, l, s, h => alone_in p r (led p l g) _ (sortP_mem.mpr (List.mem_map_of_mem (f := fun s => nxS p s ⟨g, false, false⟩) h))
end Ev

namespace K06
open PySem Ev
/-- 0 -/
def f_is_within_0 : List S := .ret (.and (.prim (.isin [.int]) [.var 0]) (.and (.not (.prim (.isin [.bool]) [.var 0])) (.chain .le .le (.var 1) (.var 0) (.var 2)))) ::
  []
theorem f_is_within_x0 {c : Ev.Ctx} {ρ : Ev.Env} {st : Store} : evSs c f_is_within_0 ρ st = (evS c (.ret (.and (.prim (.isin [.int]) [.var 0]) (.and (.not (.prim (.isin [.bool]) [.var 0])) (.chain .le .le (.var 1) (.var 0) (.var 2))))) ρ st).bind (kSs c []) := r_ss
def f_is_within : Fn := ⟨3, 3, f_is_within_0⟩
/-- 1 -/
def f_is_row_0 : List S := .ret (.and (.prim (.isin [.tuple]) [.var 0]) (.cmp .eq (.prim .len [.var 0]) (.var 1))) ::
  []
theorem f_is_row_x0 {c : Ev.Ctx} {ρ : Ev.Env} {st : Store} : evSs c f_is_row_0 ρ st = (evS c (.ret (.and (.prim (.isin [.tuple]) [.var 0]) (.cmp .eq (.prim .len [.var 0]) (.var 1)))) ρ st).bind (kSs c []) := r_ss
def f_is_row : Fn := ⟨2, 2, f_is_row_0⟩
/-- 2 -/
def f_is_word_0 : List S := .ret (.and (.prim (.isin [.str]) [.var 0]) (.cmp .isin (.var 0) (.var 1))) ::
  []
theorem f_is_word_x0 {c : Ev.Ctx} {ρ : Ev.Env} {st : Store} : evSs c f_is_word_0 ρ st = (evS c (.ret (.and (.prim (.isin [.str]) [.var 0]) (.cmp .isin (.var 0) (.var 1)))) ρ st).bind (kSs c []) := r_ss
def f_is_word : Fn := ⟨2, 2, f_is_word_0⟩
/-- 3 -/
def f_is_program_1 : List S := .ret (.and (.call 0 [.sub (.var 0) (.int 2), .int 0, .int 3]) (.and (.call 2 [.sub (.var 0) (.int 3), .glob "LAMPS" (.tup [(.str s_moves), (.str s_none), (.str s_open)])]) (.prim (.isin [.bool]) [.sub (.var 0) (.int 4)]))) ::
  []
def f_is_program_0 : List S := .ite (.or (.not (.call 1 [.var 0, .int 5])) (.or (.not (.call 2 [.sub (.var 0) (.int 0), .glob "RESUMES" (.tup [(.str s_other), (.str s_same), (.str s_up)])])) (.not (.prim (.isin [.bool]) [.sub (.var 0) (.int 1)]))))
    [.ret (.bl false)]
    [] ::
  f_is_program_1
theorem f_is_program_x0 {c : Ev.Ctx} {ρ : Ev.Env} {st : Store} : evSs c f_is_program_0 ρ st = (evS c (.ite (.or (.not (.call 1 [.var 0, .int 5])) (.or (.not (.call 2 [.sub (.var 0) (.int 0), .glob "RESUMES" (.tup [(.str s_other), (.str s_same), (.str s_up)])])) (.not (.prim (.isin [.bool]) [.sub (.var 0) (.int 1)]))))
    [.ret (.bl false)]
    []) ρ st).bind (kSs c f_is_program_1) := r_ss
theorem f_is_program_x1 {c : Ev.Ctx} {ρ : Ev.Env} {st : Store} : evSs c f_is_program_1 ρ st = (evS c (.ret (.and (.call 0 [.sub (.var 0) (.int 2), .int 0, .int 3]) (.and (.call 2 [.sub (.var 0) (.int 3), .glob "LAMPS" (.tup [(.str s_moves), (.str s_none), (.str s_open)])]) (.prim (.isin [.bool]) [.sub (.var 0) (.int 4)])))) ρ st).bind (kSs c []) := r_ss
def f_is_program : Fn := ⟨1, 1, f_is_program_0⟩
/-- 4 -/
def f_is_plan_0 : List S := .ret (.and (.call 1 [.var 0, .int 2]) (.and (.call 0 [.sub (.var 0) (.int 0), .int 1, .int 3]) (.call 3 [.sub (.var 0) (.int 1)]))) ::
  []
theorem f_is_plan_x0 {c : Ev.Ctx} {ρ : Ev.Env} {st : Store} : evSs c f_is_plan_0 ρ st = (evS c (.ret (.and (.call 1 [.var 0, .int 2]) (.and (.call 0 [.sub (.var 0) (.int 0), .int 1, .int 3]) (.call 3 [.sub (.var 0) (.int 1)])))) ρ st).bind (kSs c []) := r_ss
def f_is_plan : Fn := ⟨1, 1, f_is_plan_0⟩
/-- 5 -/
def f_look_at_plan_0 : List S := .ite (.not (.call 4 [.var 0]))
    [.raise]
    [] ::
  []
theorem f_look_at_plan_x0 {c : Ev.Ctx} {ρ : Ev.Env} {st : Store} : evSs c f_look_at_plan_0 ρ st = (evS c (.ite (.not (.call 4 [.var 0]))
    [.raise]
    []) ρ st).bind (kSs c []) := r_ss
def f_look_at_plan : Fn := ⟨1, 1, f_look_at_plan_0⟩
/-- 6 -/
def f_stopped_0 : List S := .ret (.dsub (.dct false false (.cons (.str s_other) (.neg (.var 1)) (.cons (.str s_same) (.var 1) (.cons (.str s_up) (.int 1) (.nil))))) (.sub (.sub (.var 0) (.int 1)) (.int 0))) ::
  []
theorem f_stopped_x0 {c : Ev.Ctx} {ρ : Ev.Env} {st : Store} : evSs c f_stopped_0 ρ st = (evS c (.ret (.dsub (.dct false false (.cons (.str s_other) (.neg (.var 1)) (.cons (.str s_same) (.var 1) (.cons (.str s_up) (.int 1) (.nil))))) (.sub (.sub (.var 0) (.int 1)) (.int 0)))) ρ st).bind (kSs c []) := r_ss
def f_stopped : Fn := ⟨2, 2, f_stopped_0⟩
/-- 7 -/
def f_cut_off_2 : List S := .ret (.tup [.var 2, .int 0, .ite (.sub (.sub (.var 0) (.int 1)) (.int 4)) (.var 4) (.int 1), .int 0]) ::
  []
def f_cut_off_1 : List S := .ite (.cmp .ne (.var 3) (.int 0))
    [.asg (.name 4) (.call 6 [.var 0, .var 3])]
    [] ::
  f_cut_off_2
def f_cut_off_0 : List S := .asg (.tup [.name 2, .name 3, .name 4, .name 5]) (.var 1) ::
  f_cut_off_1
theorem f_cut_off_x0 {c : Ev.Ctx} {ρ : Ev.Env} {st : Store} : evSs c f_cut_off_0 ρ st = (evS c (.asg (.tup [.name 2, .name 3, .name 4, .name 5]) (.var 1)) ρ st).bind (kSs c f_cut_off_1) := r_ss
theorem f_cut_off_x1 {c : Ev.Ctx} {ρ : Ev.Env} {st : Store} : evSs c f_cut_off_1 ρ st = (evS c (.ite (.cmp .ne (.var 3) (.int 0))
    [.asg (.name 4) (.call 6 [.var 0, .var 3])]
    []) ρ st).bind (kSs c f_cut_off_2) := r_ss
theorem f_cut_off_x2 {c : Ev.Ctx} {ρ : Ev.Env} {st : Store} : evSs c f_cut_off_2 ρ st = (evS c (.ret (.tup [.var 2, .int 0, .ite (.sub (.sub (.var 0) (.int 1)) (.int 4)) (.var 4) (.int 1), .int 0])) ρ st).bind (kSs c []) := r_ss
def f_cut_off : Fn := ⟨2, 6, f_cut_off_0⟩
/-- 8 -/
def f_ordered_4 : List S := .ret (.tup [.var 5, .var 6, .var 7]) ::
  []
def f_ordered_3 : List S := .ite (.and (.cmp .eq (.var 5) (.int 0)) (.and (.cmp .eq (.var 4) (.sub (.var 0) (.int 0))) (.cmp .gt (.var 3) (.int 0))))
    [.ret (.ite (.cmp .eq (.bin .add (.var 7) (.int 1)) (.var 3)) (.tup [.neg (.int 1), .int 0, .int 0]) (.tup [.int 0, .var 6, .bin .add (.var 7) (.int 1)]))]
    [] ::
  f_ordered_4
def f_ordered_2 : List S := .ite (.var 2)
    [.ret (.ite (.cmp .ne (.var 5) (.int 0)) (.tup [.int 0, .call 6 [.var 0, .var 5], .int 0]) (.tup [.var 6, .int 0, .int 0]))]
    [] ::
  f_ordered_3
def f_ordered_1 : List S := .asg (.name 3) (.sub (.sub (.var 0) (.int 1)) (.int 2)) ::
  f_ordered_2
def f_ordered_0 : List S := .asg (.tup [.name 4, .name 5, .name 6, .name 7]) (.var 1) ::
  f_ordered_1
theorem f_ordered_x0 {c : Ev.Ctx} {ρ : Ev.Env} {st : Store} : evSs c f_ordered_0 ρ st = (evS c (.asg (.tup [.name 4, .name 5, .name 6, .name 7]) (.var 1)) ρ st).bind (kSs c f_ordered_1) := r_ss
theorem f_ordered_x1 {c : Ev.Ctx} {ρ : Ev.Env} {st : Store} : evSs c f_ordered_1 ρ st = (evS c (.asg (.name 3) (.sub (.sub (.var 0) (.int 1)) (.int 2))) ρ st).bind (kSs c f_ordered_2) := r_ss
theorem f_ordered_x2 {c : Ev.Ctx} {ρ : Ev.Env} {st : Store} : evSs c f_ordered_2 ρ st = (evS c (.ite (.var 2)
    [.ret (.ite (.cmp .ne (.var 5) (.int 0)) (.tup [.int 0, .call 6 [.var 0, .var 5], .int 0]) (.tup [.var 6, .int 0, .int 0]))]
    []) ρ st).bind (kSs c f_ordered_3) := r_ss
theorem f_ordered_x3 {c : Ev.Ctx} {ρ : Ev.Env} {st : Store} : evSs c f_ordered_3 ρ st = (evS c (.ite (.and (.cmp .eq (.var 5) (.int 0)) (.and (.cmp .eq (.var 4) (.sub (.var 0) (.int 0))) (.cmp .gt (.var 3) (.int 0))))
    [.ret (.ite (.cmp .eq (.bin .add (.var 7) (.int 1)) (.var 3)) (.tup [.neg (.int 1), .int 0, .int 0]) (.tup [.int 0, .var 6, .bin .add (.var 7) (.int 1)]))]
    []) ρ st).bind (kSs c f_ordered_4) := r_ss
theorem f_ordered_x4 {c : Ev.Ctx} {ρ : Ev.Env} {st : Store} : evSs c f_ordered_4 ρ st = (evS c (.ret (.tup [.var 5, .var 6, .var 7])) ρ st).bind (kSs c []) := r_ss
def f_ordered : Fn := ⟨3, 8, f_ordered_0⟩
/-- 9 -/
def f_passed_11 : List S := .ret (.tup [.tup [.var 4, .int 0, .ite (.cmp .eq (.var 4) (.var 9)) (.neg (.int 1)) (.int 1), .int 0], .var 5]) ::
  []
def f_passed_10 : List S := .ite (.chain .lt .lt (.int 0) (.var 4) (.var 9))
    [.ret (.tup [.tup [.var 4, .var 11, .int 0, .int 0], .var 5])]
    [] ::
  f_passed_11
def f_passed_9 : List S := .ite (.cmp .eq (.var 11) (.int 0))
    [.ret (.tup [.tup [.var 4, .int 0, .var 12, .var 13], .var 5])]
    [] ::
  f_passed_10
def f_passed_8 : List S := .asg (.name 5) (.bin .add (.bin .add (.var 5) (.bin .mul (.lst false [.str s_hits]) (.prim .int [.and (.cmp .eq (.var 4) (.int 0)) (.and (.cmp .eq (.var 10) (.int 1)) (.var 7))]))) (.bin .mul (.lst false [.str s_turned]) (.prim .int [.var 3]))) ::
  f_passed_9
def f_passed_7 : List S := .asg (.name 5) (.bin .mul (.lst false [.str s_dead]) (.prim .int [.and (.var 6) (.and (.cmp .eq (.sub (.var 1) (.int 1)) (.int 0)) (.and (.not (.var 3)) (.cmp .eq (.var 4) (.var 10))))])) ::
  f_passed_8
def f_passed_6 : List S := .asg (.name 4) (.prim .max2 [.int 0, .prim .min2 [.var 9, .bin .add (.var 10) (.var 11)]]) ::
  f_passed_7
def f_passed_5 : List S := .ite (.var 3)
    [.asg (.name 11) (.int 1)]
    [] ::
  f_passed_6
def f_passed_4 : List S := .asg (.name 3) (.and (.cmp .lt (.var 11) (.int 0)) (.and (.var 7) (.sub (.sub (.var 0) (.int 1)) (.int 1)))) ::
  f_passed_5
def f_passed_3 : List S := .asg (.tup [.name 11, .name 12, .name 13]) (.call 8 [.var 0, .var 1, .var 6]) ::
  f_passed_4
def f_passed_2 : List S := .asg (.tup [.name 9, .name 10]) (.tup [.sub (.var 0) (.int 0), .sub (.var 1) (.int 0)]) ::
  f_passed_3
def f_passed_1 : List S := .ite (.var 8)
    [.ret (.tup [.call 7 [.var 0, .var 1], .lst false []])]
    [] ::
  f_passed_2
def f_passed_0 : List S := .asg (.tup [.name 6, .name 7, .name 8]) (.var 2) ::
  f_passed_1
theorem f_passed_x0 {c : Ev.Ctx} {ρ : Ev.Env} {st : Store} : evSs c f_passed_0 ρ st = (evS c (.asg (.tup [.name 6, .name 7, .name 8]) (.var 2)) ρ st).bind (kSs c f_passed_1) := r_ss
theorem f_passed_x1 {c : Ev.Ctx} {ρ : Ev.Env} {st : Store} : evSs c f_passed_1 ρ st = (evS c (.ite (.var 8)
    [.ret (.tup [.call 7 [.var 0, .var 1], .lst false []])]
    []) ρ st).bind (kSs c f_passed_2) := r_ss
theorem f_passed_x2 {c : Ev.Ctx} {ρ : Ev.Env} {st : Store} : evSs c f_passed_2 ρ st = (evS c (.asg (.tup [.name 9, .name 10]) (.tup [.sub (.var 0) (.int 0), .sub (.var 1) (.int 0)])) ρ st).bind (kSs c f_passed_3) := r_ss
theorem f_passed_x3 {c : Ev.Ctx} {ρ : Ev.Env} {st : Store} : evSs c f_passed_3 ρ st = (evS c (.asg (.tup [.name 11, .name 12, .name 13]) (.call 8 [.var 0, .var 1, .var 6])) ρ st).bind (kSs c f_passed_4) := r_ss
theorem f_passed_x4 {c : Ev.Ctx} {ρ : Ev.Env} {st : Store} : evSs c f_passed_4 ρ st = (evS c (.asg (.name 3) (.and (.cmp .lt (.var 11) (.int 0)) (.and (.var 7) (.sub (.sub (.var 0) (.int 1)) (.int 1))))) ρ st).bind (kSs c f_passed_5) := r_ss
theorem f_passed_x5 {c : Ev.Ctx} {ρ : Ev.Env} {st : Store} : evSs c f_passed_5 ρ st = (evS c (.ite (.var 3)
    [.asg (.name 11) (.int 1)]
    []) ρ st).bind (kSs c f_passed_6) := r_ss
theorem f_passed_x6 {c : Ev.Ctx} {ρ : Ev.Env} {st : Store} : evSs c f_passed_6 ρ st = (evS c (.asg (.name 4) (.prim .max2 [.int 0, .prim .min2 [.var 9, .bin .add (.var 10) (.var 11)]])) ρ st).bind (kSs c f_passed_7) := r_ss
theorem f_passed_x7 {c : Ev.Ctx} {ρ : Ev.Env} {st : Store} : evSs c f_passed_7 ρ st = (evS c (.asg (.name 5) (.bin .mul (.lst false [.str s_dead]) (.prim .int [.and (.var 6) (.and (.cmp .eq (.sub (.var 1) (.int 1)) (.int 0)) (.and (.not (.var 3)) (.cmp .eq (.var 4) (.var 10))))]))) ρ st).bind (kSs c f_passed_8) := r_ss
theorem f_passed_x8 {c : Ev.Ctx} {ρ : Ev.Env} {st : Store} : evSs c f_passed_8 ρ st = (evS c (.asg (.name 5) (.bin .add (.bin .add (.var 5) (.bin .mul (.lst false [.str s_hits]) (.prim .int [.and (.cmp .eq (.var 4) (.int 0)) (.and (.cmp .eq (.var 10) (.int 1)) (.var 7))]))) (.bin .mul (.lst false [.str s_turned]) (.prim .int [.var 3])))) ρ st).bind (kSs c f_passed_9) := r_ss
theorem f_passed_x9 {c : Ev.Ctx} {ρ : Ev.Env} {st : Store} : evSs c f_passed_9 ρ st = (evS c (.ite (.cmp .eq (.var 11) (.int 0))
    [.ret (.tup [.tup [.var 4, .int 0, .var 12, .var 13], .var 5])]
    []) ρ st).bind (kSs c f_passed_10) := r_ss
theorem f_passed_x10 {c : Ev.Ctx} {ρ : Ev.Env} {st : Store} : evSs c f_passed_10 ρ st = (evS c (.ite (.chain .lt .lt (.int 0) (.var 4) (.var 9))
    [.ret (.tup [.tup [.var 4, .var 11, .int 0, .int 0], .var 5])]
    []) ρ st).bind (kSs c f_passed_11) := r_ss
theorem f_passed_x11 {c : Ev.Ctx} {ρ : Ev.Env} {st : Store} : evSs c f_passed_11 ρ st = (evS c (.ret (.tup [.tup [.var 4, .int 0, .ite (.cmp .eq (.var 4) (.var 9)) (.neg (.int 1)) (.int 1), .int 0], .var 5])) ρ st).bind (kSs c []) := r_ss
def f_passed : Fn := ⟨3, 14, f_passed_0⟩
/-- 10 -/
def f_choices_of_2 : List S := .ret (.var 0) ::
  []
def f_choices_of_1 : List S := .for_ (.name 1) (.seq (.tup [.bl false, .bl true]))
    [.for_ (.name 2) (.seq (.tup [.bl false, .bl true]))
      [.asg (.name 0) (.bin .add (.var 0) (.lst false [.tup [.var 1, .var 2, .bl false], .tup [.var 1, .var 2, .bl true]]))]] ::
  f_choices_of_2
def f_choices_of_0 : List S := .asg (.name 0) (.lst false []) ::
  f_choices_of_1
theorem f_choices_of_x0 {c : Ev.Ctx} {ρ : Ev.Env} {st : Store} : evSs c f_choices_of_0 ρ st = (evS c (.asg (.name 0) (.lst false [])) ρ st).bind (kSs c f_choices_of_1) := r_ss
theorem f_choices_of_x1 {c : Ev.Ctx} {ρ : Ev.Env} {st : Store} : evSs c f_choices_of_1 ρ st = (evS c (.for_ (.name 1) (.seq (.tup [.bl false, .bl true]))
    [.for_ (.name 2) (.seq (.tup [.bl false, .bl true]))
      [.asg (.name 0) (.bin .add (.var 0) (.lst false [.tup [.var 1, .var 2, .bl false], .tup [.var 1, .var 2, .bl true]]))]]) ρ st).bind (kSs c f_choices_of_2) := r_ss
theorem f_choices_of_x2 {c : Ev.Ctx} {ρ : Ev.Env} {st : Store} : evSs c f_choices_of_2 ρ st = (evS c (.ret (.var 0)) ρ st).bind (kSs c []) := r_ss
def f_choices_of : Fn := ⟨0, 3, f_choices_of_0⟩
/-- 11 -/
def f_ways_by_2 : List S := .ret (.frz (.var 1)) ::
  []
def f_ways_by_1 : List S := .whl (.cmp .lt (.var 3) (.prim .len [.var 2]))
    [.asg (.name 4) (.sub (.var 2) (.var 3)),
    .asg (.name 3) (.bin .add (.var 3) (.int 1)),
    .for_ (.name 5) (.seq (.call 10 []))
      [.asg (.name 6) (.sub (.call 9 [.var 0, .var 4, .var 5]) (.int 0)),
      .ite (.din true (.var 6) (.var 1))
        [.setK (.var 1) (.var 6) (.bin .add (.dsub (.var 1) (.var 4)) (.tup [.var 5])),
        .expr (.append (.var 2) (.var 6))]
        []]] ::
  f_ways_by_2
def f_ways_by_0 : List S := .asg (.tup [.name 1, .name 2, .name 3]) (.tup [.dct true true (.cons (.glob "BEGIN" (.tup [(.int 0), (.int 0), (.int 1), (.int 0)])) (.tup []) (.nil)), .lst true [.glob "BEGIN" (.tup [(.int 0), (.int 0), (.int 1), (.int 0)])], .int 0]) ::
  f_ways_by_1
theorem f_ways_by_x0 {c : Ev.Ctx} {ρ : Ev.Env} {st : Store} : evSs c f_ways_by_0 ρ st = (evS c (.asg (.tup [.name 1, .name 2, .name 3]) (.tup [.dct true true (.cons (.glob "BEGIN" (.tup [(.int 0), (.int 0), (.int 1), (.int 0)])) (.tup []) (.nil)), .lst true [.glob "BEGIN" (.tup [(.int 0), (.int 0), (.int 1), (.int 0)])], .int 0])) ρ st).bind (kSs c f_ways_by_1) := r_ss
theorem f_ways_by_x1 {c : Ev.Ctx} {ρ : Ev.Env} {st : Store} : evSs c f_ways_by_1 ρ st = (evS c (.whl (.cmp .lt (.var 3) (.prim .len [.var 2]))
    [.asg (.name 4) (.sub (.var 2) (.var 3)),
    .asg (.name 3) (.bin .add (.var 3) (.int 1)),
    .for_ (.name 5) (.seq (.call 10 []))
      [.asg (.name 6) (.sub (.call 9 [.var 0, .var 4, .var 5]) (.int 0)),
      .ite (.din true (.var 6) (.var 1))
        [.setK (.var 1) (.var 6) (.bin .add (.dsub (.var 1) (.var 4)) (.tup [.var 5])),
        .expr (.append (.var 2) (.var 6))]
        []]]) ρ st).bind (kSs c f_ways_by_2) := r_ss
theorem f_ways_by_x2 {c : Ev.Ctx} {ρ : Ev.Env} {st : Store} : evSs c f_ways_by_2 ρ st = (evS c (.ret (.frz (.var 1))) ρ st).bind (kSs c []) := r_ss
def f_ways_by : Fn := ⟨1, 7, f_ways_by_0⟩
/-- 12 -/
def f_led_0 : List S := .ret (.prim .tuple [.prim .sortset [.comp [3] (.sub (.call 9 [.var 0, .var 3, .tup [.var 2, .bl false, .bl false]]) (.int 0)) (.name 3) (.seq (.var 1)) none]]) ::
  []
theorem f_led_x0 {c : Ev.Ctx} {ρ : Ev.Env} {st : Store} : evSs c f_led_0 ρ st = (evS c (.ret (.prim .tuple [.prim .sortset [.comp [3] (.sub (.call 9 [.var 0, .var 3, .tup [.var 2, .bl false, .bl false]]) (.int 0)) (.name 3) (.seq (.var 1)) none]])) ρ st).bind (kSs c []) := r_ss
def f_led : Fn := ⟨3, 4, f_led_0⟩
/-- 13 -/
def f_is_shut_0 : List S := .ret (.prim .all [.comp [1] (.cmp .eq (.cut (.var 1) none (some (.int 2))) (.tup [.int 0, .int 0])) (.name 1) (.seq (.var 0)) none]) ::
  []
theorem f_is_shut_x0 {c : Ev.Ctx} {ρ : Ev.Env} {st : Store} : evSs c f_is_shut_0 ρ st = (evS c (.ret (.prim .all [.comp [1] (.cmp .eq (.cut (.var 1) none (some (.int 2))) (.tup [.int 0, .int 0])) (.name 1) (.seq (.var 0)) none])) ρ st).bind (kSs c []) := r_ss
def f_is_shut : Fn := ⟨1, 2, f_is_shut_0⟩
/-- 14 -/
def f_row_by_3 : List S := .ret (.non) ::
  []
def f_row_by_2 : List S := .whl (.cmp .lt (.var 4) (.prim .len [.var 3]))
    [.asg (.name 5) (.sub (.var 3) (.var 4)),
    .asg (.name 4) (.bin .add (.var 4) (.int 1)),
    .ite (.call 13 [.var 5])
      [.ret (.dsub (.var 2) (.var 5))]
      [],
    .for_ (.name 6) (.seq (.tup [.bl false, .bl true]))
      [.asg (.name 7) (.call 12 [.var 0, .var 5, .var 6]),
      .ite (.din true (.var 7) (.var 2))
        [.setK (.var 2) (.var 7) (.bin .add (.dsub (.var 2) (.var 5)) (.tup [.var 6])),
        .expr (.append (.var 3) (.var 7))]
        []]] ::
  f_row_by_3
def f_row_by_1 : List S := .asg (.tup [.name 2, .name 3, .name 4]) (.tup [.dct true true (.cons (.var 1) (.tup []) (.nil)), .lst true [.var 1], .int 0]) ::
  f_row_by_2
def f_row_by_0 : List S := .asg (.name 1) (.prim .tuple [.prim .dsorted [.call 11 [.var 0]]]) ::
  f_row_by_1
theorem f_row_by_x0 {c : Ev.Ctx} {ρ : Ev.Env} {st : Store} : evSs c f_row_by_0 ρ st = (evS c (.asg (.name 1) (.prim .tuple [.prim .dsorted [.call 11 [.var 0]]])) ρ st).bind (kSs c f_row_by_1) := r_ss
theorem f_row_by_x1 {c : Ev.Ctx} {ρ : Ev.Env} {st : Store} : evSs c f_row_by_1 ρ st = (evS c (.asg (.tup [.name 2, .name 3, .name 4]) (.tup [.dct true true (.cons (.var 1) (.tup []) (.nil)), .lst true [.var 1], .int 0])) ρ st).bind (kSs c f_row_by_2) := r_ss
theorem f_row_by_x2 {c : Ev.Ctx} {ρ : Ev.Env} {st : Store} : evSs c f_row_by_2 ρ st = (evS c (.whl (.cmp .lt (.var 4) (.prim .len [.var 3]))
    [.asg (.name 5) (.sub (.var 3) (.var 4)),
    .asg (.name 4) (.bin .add (.var 4) (.int 1)),
    .ite (.call 13 [.var 5])
      [.ret (.dsub (.var 2) (.var 5))]
      [],
    .for_ (.name 6) (.seq (.tup [.bl false, .bl true]))
      [.asg (.name 7) (.call 12 [.var 0, .var 5, .var 6]),
      .ite (.din true (.var 7) (.var 2))
        [.setK (.var 2) (.var 7) (.bin .add (.dsub (.var 2) (.var 5)) (.tup [.var 6])),
        .expr (.append (.var 3) (.var 7))]
        []]]) ρ st).bind (kSs c f_row_by_3) := r_ss
theorem f_row_by_x3 {c : Ev.Ctx} {ρ : Ev.Env} {st : Store} : evSs c f_row_by_3 ρ st = (evS c (.ret (.non)) ρ st).bind (kSs c []) := r_ss
def f_row_by : Fn := ⟨1, 8, f_row_by_0⟩
/-- 15 -/
def f_shut_row_1 : List S := .ret (.call 14 [.var 0]) ::
  []
def f_shut_row_0 : List S := .expr (.call 5 [.var 0]) ::
  f_shut_row_1
theorem f_shut_row_x0 {c : Ev.Ctx} {ρ : Ev.Env} {st : Store} : evSs c f_shut_row_0 ρ st = (evS c (.expr (.call 5 [.var 0])) ρ st).bind (kSs c f_shut_row_1) := r_ss
theorem f_shut_row_x1 {c : Ev.Ctx} {ρ : Ev.Env} {st : Store} : evSs c f_shut_row_1 ρ st = (evS c (.ret (.call 14 [.var 0])) ρ st).bind (kSs c []) := r_ss
def f_shut_row : Fn := ⟨1, 1, f_shut_row_0⟩
/-- 16 -/
def f_law_spring_3 : List S := .ret (.lst true [.ite (.cmp .ge (.var 2) (.bin .pow (.int 10) (.int 18))) (.var 2) (.int 0), .var 3]) ::
  []
def f_law_spring_2 : List S := .asg (.name 3) (.bin .mod (.prim .int [.bin .add (.bin .add (.bin .mul (.var 2) (.int 863)) (.bin .mul (.int 524287) (.var 1))) (.int 1)]) (.int 999999999989)) ::
  f_law_spring_3
def f_law_spring_1 : List S := .ite (.cmp .lt (.var 1) (.prim .len [.var 0]))
    [.asg (.name 2) (.prim .abs [.sub (.var 0) (.var 1)])]
    [] ::
  f_law_spring_2
def f_law_spring_0 : List S := .asg (.name 2) (.int 7) ::
  f_law_spring_1
theorem f_law_spring_x0 {c : Ev.Ctx} {ρ : Ev.Env} {st : Store} : evSs c f_law_spring_0 ρ st = (evS c (.asg (.name 2) (.int 7)) ρ st).bind (kSs c f_law_spring_1) := r_ss
theorem f_law_spring_x1 {c : Ev.Ctx} {ρ : Ev.Env} {st : Store} : evSs c f_law_spring_1 ρ st = (evS c (.ite (.cmp .lt (.var 1) (.prim .len [.var 0]))
    [.asg (.name 2) (.prim .abs [.sub (.var 0) (.var 1)])]
    []) ρ st).bind (kSs c f_law_spring_2) := r_ss
theorem f_law_spring_x2 {c : Ev.Ctx} {ρ : Ev.Env} {st : Store} : evSs c f_law_spring_2 ρ st = (evS c (.asg (.name 3) (.bin .mod (.prim .int [.bin .add (.bin .add (.bin .mul (.var 2) (.int 863)) (.bin .mul (.int 524287) (.var 1))) (.int 1)]) (.int 999999999989))) ρ st).bind (kSs c f_law_spring_3) := r_ss
theorem f_law_spring_x3 {c : Ev.Ctx} {ρ : Ev.Env} {st : Store} : evSs c f_law_spring_3 ρ st = (evS c (.ret (.lst true [.ite (.cmp .ge (.var 2) (.bin .pow (.int 10) (.int 18))) (.var 2) (.int 0), .var 3])) ρ st).bind (kSs c []) := r_ss
def f_law_spring : Fn := ⟨2, 4, f_law_spring_0⟩
/-- 17 -/
def f_law_pick_2 : List S := .ret (.bin .mod (.prim .int [.bin .fdiv (.sub (.var 0) (.int 1)) (.int 4093)]) (.var 1)) ::
  []
def f_law_pick_1 : List S := .setI (.var 0) (.int 1) (.bin .mod (.prim .int [.bin .add (.bin .mul (.sub (.var 0) (.int 1)) (.int 393555900739)) (.int 8191)]) (.int 999999999989)) ::
  f_law_pick_2
def f_law_pick_0 : List S := .ite (.cmp .gt (.sub (.var 0) (.int 0)) (.int 0))
    [.asg (.name 2) (.bin .mod (.prim .int [.sub (.var 0) (.int 0)]) (.var 1)),
    .setI (.var 0) (.int 0) (.bin .fdiv (.sub (.var 0) (.int 0)) (.var 1)),
    .ret (.var 2)]
    [] ::
  f_law_pick_1
theorem f_law_pick_x0 {c : Ev.Ctx} {ρ : Ev.Env} {st : Store} : evSs c f_law_pick_0 ρ st = (evS c (.ite (.cmp .gt (.sub (.var 0) (.int 0)) (.int 0))
    [.asg (.name 2) (.bin .mod (.prim .int [.sub (.var 0) (.int 0)]) (.var 1)),
    .setI (.var 0) (.int 0) (.bin .fdiv (.sub (.var 0) (.int 0)) (.var 1)),
    .ret (.var 2)]
    []) ρ st).bind (kSs c f_law_pick_1) := r_ss
theorem f_law_pick_x1 {c : Ev.Ctx} {ρ : Ev.Env} {st : Store} : evSs c f_law_pick_1 ρ st = (evS c (.setI (.var 0) (.int 1) (.bin .mod (.prim .int [.bin .add (.bin .mul (.sub (.var 0) (.int 1)) (.int 393555900739)) (.int 8191)]) (.int 999999999989))) ρ st).bind (kSs c f_law_pick_2) := r_ss
theorem f_law_pick_x2 {c : Ev.Ctx} {ρ : Ev.Env} {st : Store} : evSs c f_law_pick_2 ρ st = (evS c (.ret (.bin .mod (.prim .int [.bin .fdiv (.sub (.var 0) (.int 1)) (.int 4093)]) (.var 1))) ρ st).bind (kSs c []) := r_ss
def f_law_pick : Fn := ⟨2, 3, f_law_pick_0⟩
/-- 18 -/
def f_law_kind_2 : List S := .ret (.ite (.prim (.isin [.int]) [.var 0]) (.int 4) (.ite (.prim (.isin [.str]) [.var 0]) (.int 5) (.int 6))) ::
  []
def f_law_kind_1 : List S := .ite (.prim (.isin [.list, .tuple]) [.var 0])
    [.ret (.ite (.prim (.isin [.list]) [.var 0]) (.int 2) (.int 3))]
    [] ::
  f_law_kind_2
def f_law_kind_0 : List S := .ite (.or (.cmp .is_ (.var 0) (.non)) (.prim (.isin [.bool]) [.var 0]))
    [.ret (.ite (.cmp .is_ (.var 0) (.non)) (.int 0) (.int 1))]
    [] ::
  f_law_kind_1
theorem f_law_kind_x0 {c : Ev.Ctx} {ρ : Ev.Env} {st : Store} : evSs c f_law_kind_0 ρ st = (evS c (.ite (.or (.cmp .is_ (.var 0) (.non)) (.prim (.isin [.bool]) [.var 0]))
    [.ret (.ite (.cmp .is_ (.var 0) (.non)) (.int 0) (.int 1))]
    []) ρ st).bind (kSs c f_law_kind_1) := r_ss
theorem f_law_kind_x1 {c : Ev.Ctx} {ρ : Ev.Env} {st : Store} : evSs c f_law_kind_1 ρ st = (evS c (.ite (.prim (.isin [.list, .tuple]) [.var 0])
    [.ret (.ite (.prim (.isin [.list]) [.var 0]) (.int 2) (.int 3))]
    []) ρ st).bind (kSs c f_law_kind_2) := r_ss
theorem f_law_kind_x2 {c : Ev.Ctx} {ρ : Ev.Env} {st : Store} : evSs c f_law_kind_2 ρ st = (evS c (.ret (.ite (.prim (.isin [.int]) [.var 0]) (.int 4) (.ite (.prim (.isin [.str]) [.var 0]) (.int 5) (.int 6)))) ρ st).bind (kSs c []) := r_ss
def f_law_kind : Fn := ⟨1, 1, f_law_kind_0⟩
/-- 19 -/
def f_law_twins_2 : List S := .ret (.cmp .eq (.var 0) (.var 1)) ::
  []
def f_law_twins_1 : List S := .ite (.cmp .isin (.call 18 [.var 0]) (.lst false [.int 2, .int 3]))
    [.ret (.and (.cmp .eq (.prim .len [.var 0]) (.prim .len [.var 1])) (.cmp .eq (.comp [2, 3] (.int 1) (.tup [.name 2, .name 3]) (.zip (.var 0) (.var 1)) (some (.not (.call 19 [.var 2, .var 3])))) (.lst false [])))]
    [] ::
  f_law_twins_2
def f_law_twins_0 : List S := .ite (.cmp .ne (.call 18 [.var 0]) (.call 18 [.var 1]))
    [.ret (.bl false)]
    [] ::
  f_law_twins_1
theorem f_law_twins_x0 {c : Ev.Ctx} {ρ : Ev.Env} {st : Store} : evSs c f_law_twins_0 ρ st = (evS c (.ite (.cmp .ne (.call 18 [.var 0]) (.call 18 [.var 1]))
    [.ret (.bl false)]
    []) ρ st).bind (kSs c f_law_twins_1) := r_ss
theorem f_law_twins_x1 {c : Ev.Ctx} {ρ : Ev.Env} {st : Store} : evSs c f_law_twins_1 ρ st = (evS c (.ite (.cmp .isin (.call 18 [.var 0]) (.lst false [.int 2, .int 3]))
    [.ret (.and (.cmp .eq (.prim .len [.var 0]) (.prim .len [.var 1])) (.cmp .eq (.comp [2, 3] (.int 1) (.tup [.name 2, .name 3]) (.zip (.var 0) (.var 1)) (some (.not (.call 19 [.var 2, .var 3])))) (.lst false [])))]
    []) ρ st).bind (kSs c f_law_twins_2) := r_ss
theorem f_law_twins_x2 {c : Ev.Ctx} {ρ : Ev.Env} {st : Store} : evSs c f_law_twins_2 ρ st = (evS c (.ret (.cmp .eq (.var 0) (.var 1))) ρ st).bind (kSs c []) := r_ss
def f_law_twins : Fn := ⟨2, 4, f_law_twins_0⟩
/-- 20 -/
def f_law_program_3 : List S := .ret (.tup [.var 1, .var 3, .var 4, .var 2, .var 5]) ::
  []
def f_law_program_2 : List S := .asg (.tup [.name 3, .name 4, .name 5]) (.tup [.cmp .eq (.call 17 [.var 0, .int 2]) (.int 0), .call 17 [.var 0, .int 4], .cmp .gt (.call 17 [.var 0, .int 3]) (.int 0)]) ::
  f_law_program_3
def f_law_program_1 : List S := .asg (.name 2) (.sub (.lst false [.str s_moves, .str s_none, .str s_open]) (.call 17 [.var 0, .int 3])) ::
  f_law_program_2
def f_law_program_0 : List S := .asg (.name 1) (.sub (.lst false [.str s_other, .str s_same, .str s_up]) (.call 17 [.var 0, .int 3])) ::
  f_law_program_1
theorem f_law_program_x0 {c : Ev.Ctx} {ρ : Ev.Env} {st : Store} : evSs c f_law_program_0 ρ st = (evS c (.asg (.name 1) (.sub (.lst false [.str s_other, .str s_same, .str s_up]) (.call 17 [.var 0, .int 3]))) ρ st).bind (kSs c f_law_program_1) := r_ss
theorem f_law_program_x1 {c : Ev.Ctx} {ρ : Ev.Env} {st : Store} : evSs c f_law_program_1 ρ st = (evS c (.asg (.name 2) (.sub (.lst false [.str s_moves, .str s_none, .str s_open]) (.call 17 [.var 0, .int 3]))) ρ st).bind (kSs c f_law_program_2) := r_ss
theorem f_law_program_x2 {c : Ev.Ctx} {ρ : Ev.Env} {st : Store} : evSs c f_law_program_2 ρ st = (evS c (.asg (.tup [.name 3, .name 4, .name 5]) (.tup [.cmp .eq (.call 17 [.var 0, .int 2]) (.int 0), .call 17 [.var 0, .int 4], .cmp .gt (.call 17 [.var 0, .int 3]) (.int 0)])) ρ st).bind (kSs c f_law_program_3) := r_ss
theorem f_law_program_x3 {c : Ev.Ctx} {ρ : Ev.Env} {st : Store} : evSs c f_law_program_3 ρ st = (evS c (.ret (.tup [.var 1, .var 3, .var 4, .var 2, .var 5])) ρ st).bind (kSs c []) := r_ss
def f_law_program : Fn := ⟨1, 6, f_law_program_0⟩
/-- 21 -/
def f_law_plan_0 : List S := .ret (.tup [.sub (.lst false [.int 1, .int 2, .int 2, .int 3]) (.call 17 [.var 0, .int 4]), .call 20 [.var 0]]) ::
  []
theorem f_law_plan_x0 {c : Ev.Ctx} {ρ : Ev.Env} {st : Store} : evSs c f_law_plan_0 ρ st = (evS c (.ret (.tup [.sub (.lst false [.int 1, .int 2, .int 2, .int 3]) (.call 17 [.var 0, .int 4]), .call 20 [.var 0]])) ρ st).bind (kSs c []) := r_ss
def f_law_plan : Fn := ⟨1, 1, f_law_plan_0⟩
/-- 22 -/
def f_law_choice_0 : List S := .ret (.tup [.cmp .eq (.call 17 [.var 0, .int 3]) (.int 0), .cmp .eq (.call 17 [.var 0, .int 4]) (.int 0), .cmp .eq (.call 17 [.var 0, .int 8]) (.int 0)]) ::
  []
theorem f_law_choice_x0 {c : Ev.Ctx} {ρ : Ev.Env} {st : Store} : evSs c f_law_choice_0 ρ st = (evS c (.ret (.tup [.cmp .eq (.call 17 [.var 0, .int 3]) (.int 0), .cmp .eq (.call 17 [.var 0, .int 4]) (.int 0), .cmp .eq (.call 17 [.var 0, .int 8]) (.int 0)])) ρ st).bind (kSs c []) := r_ss
def f_law_choice : Fn := ⟨1, 1, f_law_choice_0⟩
/-- 23 -/
def f_law_stop_1 : List S := .ret (.ite (.cmp .eq (.sub (.sub (.var 0) (.int 1)) (.int 0)) (.str s_same)) (.sub (.var 1) (.int 1)) (.bin .sub (.int 0) (.sub (.var 1) (.int 1)))) ::
  []
def f_law_stop_0 : List S := .ite (.cmp .eq (.sub (.sub (.var 0) (.int 1)) (.int 0)) (.str s_up))
    [.ret (.int 1)]
    [] ::
  f_law_stop_1
theorem f_law_stop_x0 {c : Ev.Ctx} {ρ : Ev.Env} {st : Store} : evSs c f_law_stop_0 ρ st = (evS c (.ite (.cmp .eq (.sub (.sub (.var 0) (.int 1)) (.int 0)) (.str s_up))
    [.ret (.int 1)]
    []) ρ st).bind (kSs c f_law_stop_1) := r_ss
theorem f_law_stop_x1 {c : Ev.Ctx} {ρ : Ev.Env} {st : Store} : evSs c f_law_stop_1 ρ st = (evS c (.ret (.ite (.cmp .eq (.sub (.sub (.var 0) (.int 1)) (.int 0)) (.str s_same)) (.sub (.var 1) (.int 1)) (.bin .sub (.int 0) (.sub (.var 1) (.int 1))))) ρ st).bind (kSs c []) := r_ss
def f_law_stop : Fn := ⟨2, 2, f_law_stop_0⟩
/-- 24 -/
def f_law_tick_13 : List S := .ret (.tup [.ite (.cmp .eq (.var 3) (.int 0)) (.tup [.var 3, .int 0, .int 1, .int 0]) (.tup [.var 3, .var 6, .int 0, .int 0]), .var 12]) ::
  []
def f_law_tick_12 : List S := .ite (.cmp .eq (.var 3) (.var 4))
    [.ret (.tup [.tup [.var 3, .int 0, .neg (.int 1), .int 0], .var 12])]
    [] ::
  f_law_tick_13
def f_law_tick_11 : List S := .ite (.and (.cmp .eq (.var 3) (.int 0)) (.and (.cmp .eq (.var 5) (.int 1)) (.var 10)))
    [.asg (.name 12) (.bin .add (.var 12) (.lst false [.str s_hits]))]
    [] ::
  f_law_tick_12
def f_law_tick_10 : List S := .ite (.or (.cmp .lt (.var 3) (.int 0)) (.cmp .gt (.var 3) (.var 4)))
    [.asg (.tup [.name 3, .name 12]) (.tup [.var 5, .bin .add (.var 12) (.bin .mul (.lst false [.str s_dead]) (.prim .int [.var 13]))])]
    [] ::
  f_law_tick_11
def f_law_tick_9 : List S := .asg (.name 3) (.bin .add (.var 5) (.var 6)) ::
  f_law_tick_10
def f_law_tick_8 : List S := .ite (.cmp .eq (.var 6) (.int 0))
    [.ret (.tup [.tup [.var 5, .int 0, .var 7, .var 8], .var 12])]
    [] ::
  f_law_tick_9
def f_law_tick_7 : List S := .ite (.and (.cmp .eq (.var 6) (.neg (.int 1))) (.and (.var 10) (.var 15)))
    [.asg (.tup [.name 6, .name 12, .name 13]) (.tup [.int 1, .lst false [.str s_turned], .bl false])]
    [] ::
  f_law_tick_8
def f_law_tick_6 : List S := .ite (.var 13)
    [.asg (.tup [.name 6, .name 7, .name 8]) (.tup [.var 7, .int 0, .int 0])]
    [.ite (.and (.cmp .eq (.var 6) (.int 0)) (.and (.cmp .eq (.var 5) (.var 4)) (.cmp .gt (.var 16) (.int 0))))
      [.asg (.name 8) (.bin .add (.var 8) (.int 1)),
      .ite (.cmp .eq (.var 8) (.var 16))
        [.asg (.tup [.name 6, .name 7, .name 8]) (.tup [.neg (.int 1), .int 0, .int 0])]
        []]
      []] ::
  f_law_tick_7
def f_law_tick_5 : List S := .ite (.and (.var 9) (.cmp .ne (.var 6) (.int 0)))
    [.ret (.tup [.tup [.var 5, .int 0, .call 23 [.var 0, .var 1], .int 0], .lst false []])]
    [] ::
  f_law_tick_6
def f_law_tick_4 : List S := .asg (.tup [.name 12, .name 13]) (.tup [.lst false [], .and (.var 9) (.cmp .eq (.var 6) (.int 0))]) ::
  f_law_tick_5
def f_law_tick_3 : List S := .ite (.var 11)
    [.ite (.cmp .ne (.var 6) (.int 0))
      [.asg (.name 7) (.call 23 [.var 0, .var 1])]
      [],
    .ret (.tup [.tup [.var 5, .int 0, .ite (.var 18) (.var 7) (.int 1), .int 0], .lst false []])]
    [] ::
  f_law_tick_4
def f_law_tick_2 : List S := .asg (.tup [.name 9, .name 10, .name 11]) (.var 2) ::
  f_law_tick_3
def f_law_tick_1 : List S := .asg (.tup [.name 5, .name 6, .name 7, .name 8]) (.var 1) ::
  f_law_tick_2
def f_law_tick_0 : List S := .asg (.tup [.name 4, .tup [.name 14, .name 15, .name 16, .name 17, .name 18]]) (.var 0) ::
  f_law_tick_1
theorem f_law_tick_x0 {c : Ev.Ctx} {ρ : Ev.Env} {st : Store} : evSs c f_law_tick_0 ρ st = (evS c (.asg (.tup [.name 4, .tup [.name 14, .name 15, .name 16, .name 17, .name 18]]) (.var 0)) ρ st).bind (kSs c f_law_tick_1) := r_ss
theorem f_law_tick_x1 {c : Ev.Ctx} {ρ : Ev.Env} {st : Store} : evSs c f_law_tick_1 ρ st = (evS c (.asg (.tup [.name 5, .name 6, .name 7, .name 8]) (.var 1)) ρ st).bind (kSs c f_law_tick_2) := r_ss
theorem f_law_tick_x2 {c : Ev.Ctx} {ρ : Ev.Env} {st : Store} : evSs c f_law_tick_2 ρ st = (evS c (.asg (.tup [.name 9, .name 10, .name 11]) (.var 2)) ρ st).bind (kSs c f_law_tick_3) := r_ss
theorem f_law_tick_x3 {c : Ev.Ctx} {ρ : Ev.Env} {st : Store} : evSs c f_law_tick_3 ρ st = (evS c (.ite (.var 11)
    [.ite (.cmp .ne (.var 6) (.int 0))
      [.asg (.name 7) (.call 23 [.var 0, .var 1])]
      [],
    .ret (.tup [.tup [.var 5, .int 0, .ite (.var 18) (.var 7) (.int 1), .int 0], .lst false []])]
    []) ρ st).bind (kSs c f_law_tick_4) := r_ss
theorem f_law_tick_x4 {c : Ev.Ctx} {ρ : Ev.Env} {st : Store} : evSs c f_law_tick_4 ρ st = (evS c (.asg (.tup [.name 12, .name 13]) (.tup [.lst false [], .and (.var 9) (.cmp .eq (.var 6) (.int 0))])) ρ st).bind (kSs c f_law_tick_5) := r_ss
theorem f_law_tick_x5 {c : Ev.Ctx} {ρ : Ev.Env} {st : Store} : evSs c f_law_tick_5 ρ st = (evS c (.ite (.and (.var 9) (.cmp .ne (.var 6) (.int 0)))
    [.ret (.tup [.tup [.var 5, .int 0, .call 23 [.var 0, .var 1], .int 0], .lst false []])]
    []) ρ st).bind (kSs c f_law_tick_6) := r_ss
theorem f_law_tick_x6 {c : Ev.Ctx} {ρ : Ev.Env} {st : Store} : evSs c f_law_tick_6 ρ st = (evS c (.ite (.var 13)
    [.asg (.tup [.name 6, .name 7, .name 8]) (.tup [.var 7, .int 0, .int 0])]
    [.ite (.and (.cmp .eq (.var 6) (.int 0)) (.and (.cmp .eq (.var 5) (.var 4)) (.cmp .gt (.var 16) (.int 0))))
      [.asg (.name 8) (.bin .add (.var 8) (.int 1)),
      .ite (.cmp .eq (.var 8) (.var 16))
        [.asg (.tup [.name 6, .name 7, .name 8]) (.tup [.neg (.int 1), .int 0, .int 0])]
        []]
      []]) ρ st).bind (kSs c f_law_tick_7) := r_ss
theorem f_law_tick_x7 {c : Ev.Ctx} {ρ : Ev.Env} {st : Store} : evSs c f_law_tick_7 ρ st = (evS c (.ite (.and (.cmp .eq (.var 6) (.neg (.int 1))) (.and (.var 10) (.var 15)))
    [.asg (.tup [.name 6, .name 12, .name 13]) (.tup [.int 1, .lst false [.str s_turned], .bl false])]
    []) ρ st).bind (kSs c f_law_tick_8) := r_ss
theorem f_law_tick_x8 {c : Ev.Ctx} {ρ : Ev.Env} {st : Store} : evSs c f_law_tick_8 ρ st = (evS c (.ite (.cmp .eq (.var 6) (.int 0))
    [.ret (.tup [.tup [.var 5, .int 0, .var 7, .var 8], .var 12])]
    []) ρ st).bind (kSs c f_law_tick_9) := r_ss
theorem f_law_tick_x9 {c : Ev.Ctx} {ρ : Ev.Env} {st : Store} : evSs c f_law_tick_9 ρ st = (evS c (.asg (.name 3) (.bin .add (.var 5) (.var 6))) ρ st).bind (kSs c f_law_tick_10) := r_ss
theorem f_law_tick_x10 {c : Ev.Ctx} {ρ : Ev.Env} {st : Store} : evSs c f_law_tick_10 ρ st = (evS c (.ite (.or (.cmp .lt (.var 3) (.int 0)) (.cmp .gt (.var 3) (.var 4)))
    [.asg (.tup [.name 3, .name 12]) (.tup [.var 5, .bin .add (.var 12) (.bin .mul (.lst false [.str s_dead]) (.prim .int [.var 13]))])]
    []) ρ st).bind (kSs c f_law_tick_11) := r_ss
theorem f_law_tick_x11 {c : Ev.Ctx} {ρ : Ev.Env} {st : Store} : evSs c f_law_tick_11 ρ st = (evS c (.ite (.and (.cmp .eq (.var 3) (.int 0)) (.and (.cmp .eq (.var 5) (.int 1)) (.var 10)))
    [.asg (.name 12) (.bin .add (.var 12) (.lst false [.str s_hits]))]
    []) ρ st).bind (kSs c f_law_tick_12) := r_ss
theorem f_law_tick_x12 {c : Ev.Ctx} {ρ : Ev.Env} {st : Store} : evSs c f_law_tick_12 ρ st = (evS c (.ite (.cmp .eq (.var 3) (.var 4))
    [.ret (.tup [.tup [.var 3, .int 0, .neg (.int 1), .int 0], .var 12])]
    []) ρ st).bind (kSs c f_law_tick_13) := r_ss
theorem f_law_tick_x13 {c : Ev.Ctx} {ρ : Ev.Env} {st : Store} : evSs c f_law_tick_13 ρ st = (evS c (.ret (.tup [.ite (.cmp .eq (.var 3) (.int 0)) (.tup [.var 3, .int 0, .int 1, .int 0]) (.tup [.var 3, .var 6, .int 0, .int 0]), .var 12])) ρ st).bind (kSs c []) := r_ss
def f_law_tick : Fn := ⟨3, 19, f_law_tick_0⟩
/-- 25 -/
def f_law_lit_0 : List S := .ret (.get2 (.dct false false (.cons (.str s_moves) (.cmp .ne (.sub (.var 1) (.int 1)) (.int 0)) (.cons (.str s_open) (.cmp .ne (.sub (.var 1) (.int 0)) (.int 0)) (.nil)))) (.sub (.sub (.var 0) (.int 1)) (.int 3)) (.bl false)) ::
  []
theorem f_law_lit_x0 {c : Ev.Ctx} {ρ : Ev.Env} {st : Store} : evSs c f_law_lit_0 ρ st = (evS c (.ret (.get2 (.dct false false (.cons (.str s_moves) (.cmp .ne (.sub (.var 1) (.int 1)) (.int 0)) (.cons (.str s_open) (.cmp .ne (.sub (.var 1) (.int 0)) (.int 0)) (.nil)))) (.sub (.sub (.var 0) (.int 1)) (.int 3)) (.bl false))) ρ st).bind (kSs c []) := r_ss
def f_law_lit : Fn := ⟨2, 2, f_law_lit_0⟩
/-- 26 -/
def f_law_all_choices_2 : List S := .ret (.frz (.var 0)) ::
  []
def f_law_all_choices_1 : List S := .for_ (.name 1) (.rng1 (.int 8))
    [.expr (.append (.var 0) (.tup [.cmp .eq (.bin .fdiv (.var 1) (.int 4)) (.int 1), .cmp .eq (.bin .mod (.bin .fdiv (.var 1) (.int 2)) (.int 2)) (.int 1), .cmp .eq (.bin .mod (.var 1) (.int 2)) (.int 1)]))] ::
  f_law_all_choices_2
def f_law_all_choices_0 : List S := .asg (.name 0) (.lst true []) ::
  f_law_all_choices_1
theorem f_law_all_choices_x0 {c : Ev.Ctx} {ρ : Ev.Env} {st : Store} : evSs c f_law_all_choices_0 ρ st = (evS c (.asg (.name 0) (.lst true [])) ρ st).bind (kSs c f_law_all_choices_1) := r_ss
theorem f_law_all_choices_x1 {c : Ev.Ctx} {ρ : Ev.Env} {st : Store} : evSs c f_law_all_choices_1 ρ st = (evS c (.for_ (.name 1) (.rng1 (.int 8))
    [.expr (.append (.var 0) (.tup [.cmp .eq (.bin .fdiv (.var 1) (.int 4)) (.int 1), .cmp .eq (.bin .mod (.bin .fdiv (.var 1) (.int 2)) (.int 2)) (.int 1), .cmp .eq (.bin .mod (.var 1) (.int 2)) (.int 1)]))]) ρ st).bind (kSs c f_law_all_choices_2) := r_ss
theorem f_law_all_choices_x2 {c : Ev.Ctx} {ρ : Ev.Env} {st : Store} : evSs c f_law_all_choices_2 ρ st = (evS c (.ret (.frz (.var 0))) ρ st).bind (kSs c []) := r_ss
def f_law_all_choices : Fn := ⟨0, 2, f_law_all_choices_0⟩
/-- 27 -/
def f_law_ways_3 : List S := .ret (.frz (.var 2)) ::
  []
def f_law_ways_2 : List S := .whl (.cmp .lt (.var 4) (.prim .len [.var 3]))
    [.asg (.name 5) (.sub (.var 3) (.var 4)),
    .asg (.name 4) (.bin .add (.var 4) (.int 1)),
    .for_ (.name 6) (.seq (.call 26 []))
      [.asg (.name 7) (.sub (.call 24 [.var 0, .var 5, .var 6]) (.int 0)),
      .ite (.din true (.var 7) (.var 2))
        [.setK (.var 2) (.var 7) (.bin .add (.dsub (.var 2) (.var 5)) (.tup [.var 6])),
        .expr (.append (.var 3) (.var 7))]
        []]] ::
  f_law_ways_3
def f_law_ways_1 : List S := .asg (.tup [.name 2, .name 3, .name 4]) (.tup [.dct true true (.cons (.var 1) (.tup []) (.nil)), .lst true [.var 1], .int 0]) ::
  f_law_ways_2
def f_law_ways_0 : List S := .asg (.name 1) (.tup [.int 0, .int 0, .int 1, .int 0]) ::
  f_law_ways_1
theorem f_law_ways_x0 {c : Ev.Ctx} {ρ : Ev.Env} {st : Store} : evSs c f_law_ways_0 ρ st = (evS c (.asg (.name 1) (.tup [.int 0, .int 0, .int 1, .int 0])) ρ st).bind (kSs c f_law_ways_1) := r_ss
theorem f_law_ways_x1 {c : Ev.Ctx} {ρ : Ev.Env} {st : Store} : evSs c f_law_ways_1 ρ st = (evS c (.asg (.tup [.name 2, .name 3, .name 4]) (.tup [.dct true true (.cons (.var 1) (.tup []) (.nil)), .lst true [.var 1], .int 0])) ρ st).bind (kSs c f_law_ways_2) := r_ss
theorem f_law_ways_x2 {c : Ev.Ctx} {ρ : Ev.Env} {st : Store} : evSs c f_law_ways_2 ρ st = (evS c (.whl (.cmp .lt (.var 4) (.prim .len [.var 3]))
    [.asg (.name 5) (.sub (.var 3) (.var 4)),
    .asg (.name 4) (.bin .add (.var 4) (.int 1)),
    .for_ (.name 6) (.seq (.call 26 []))
      [.asg (.name 7) (.sub (.call 24 [.var 0, .var 5, .var 6]) (.int 0)),
      .ite (.din true (.var 7) (.var 2))
        [.setK (.var 2) (.var 7) (.bin .add (.dsub (.var 2) (.var 5)) (.tup [.var 6])),
        .expr (.append (.var 3) (.var 7))]
        []]]) ρ st).bind (kSs c f_law_ways_3) := r_ss
theorem f_law_ways_x3 {c : Ev.Ctx} {ρ : Ev.Env} {st : Store} : evSs c f_law_ways_3 ρ st = (evS c (.ret (.frz (.var 2))) ρ st).bind (kSs c []) := r_ss
def f_law_ways : Fn := ⟨1, 8, f_law_ways_0⟩
/-- 28 -/
def f_law_led_0 : List S := .ret (.prim .tuple [.prim .sortset [.comp [3] (.sub (.call 24 [.var 0, .var 3, .tup [.var 2, .bl false, .bl false]]) (.int 0)) (.name 3) (.seq (.var 1)) none]]) ::
  []
theorem f_law_led_x0 {c : Ev.Ctx} {ρ : Ev.Env} {st : Store} : evSs c f_law_led_0 ρ st = (evS c (.ret (.prim .tuple [.prim .sortset [.comp [3] (.sub (.call 24 [.var 0, .var 3, .tup [.var 2, .bl false, .bl false]]) (.int 0)) (.name 3) (.seq (.var 1)) none]])) ρ st).bind (kSs c []) := r_ss
def f_law_led : Fn := ⟨3, 4, f_law_led_0⟩
/-- 29 -/
def f_law_is_shut_0 : List S := .ret (.cmp .eq (.comp [1] (.var 1) (.name 1) (.seq (.var 0)) (some (.or (.cmp .ne (.sub (.var 1) (.int 0)) (.int 0)) (.cmp .ne (.sub (.var 1) (.int 1)) (.int 0))))) (.lst false [])) ::
  []
theorem f_law_is_shut_x0 {c : Ev.Ctx} {ρ : Ev.Env} {st : Store} : evSs c f_law_is_shut_0 ρ st = (evS c (.ret (.cmp .eq (.comp [1] (.var 1) (.name 1) (.seq (.var 0)) (some (.or (.cmp .ne (.sub (.var 1) (.int 0)) (.int 0)) (.cmp .ne (.sub (.var 1) (.int 1)) (.int 0))))) (.lst false []))) ρ st).bind (kSs c []) := r_ss
def f_law_is_shut : Fn := ⟨1, 2, f_law_is_shut_0⟩
/-- 30 -/
def f_law_shut_row_2 : List S := .ret (.non) ::
  []
def f_law_shut_row_1 : List S := .whl (.cmp .ne (.var 1) (.lst false []))
    [.asg (.name 3) (.lst true []),
    .for_ (.tup [.name 4, .name 5]) (.seq (.var 1))
      [.ite (.din true (.var 4) (.var 2))
        [.setK (.var 2) (.var 4) (.bl true),
        .ite (.call 29 [.var 4])
          [.ret (.var 5)]
          [],
        .for_ (.name 6) (.seq (.lst false [.bl false, .bl true]))
          [.expr (.append (.var 3) (.tup [.call 28 [.var 0, .var 4, .var 6], .bin .add (.var 5) (.tup [.var 6])]))]]
        []],
    .asg (.name 1) (.frz (.var 3))] ::
  f_law_shut_row_2
def f_law_shut_row_0 : List S := .asg (.tup [.name 1, .name 2]) (.tup [.lst false [.tup [.prim .tuple [.prim .dsorted [.call 27 [.var 0]]], .tup []]], .dct true true (.nil)]) ::
  f_law_shut_row_1
theorem f_law_shut_row_x0 {c : Ev.Ctx} {ρ : Ev.Env} {st : Store} : evSs c f_law_shut_row_0 ρ st = (evS c (.asg (.tup [.name 1, .name 2]) (.tup [.lst false [.tup [.prim .tuple [.prim .dsorted [.call 27 [.var 0]]], .tup []]], .dct true true (.nil)])) ρ st).bind (kSs c f_law_shut_row_1) := r_ss
theorem f_law_shut_row_x1 {c : Ev.Ctx} {ρ : Ev.Env} {st : Store} : evSs c f_law_shut_row_1 ρ st = (evS c (.whl (.cmp .ne (.var 1) (.lst false []))
    [.asg (.name 3) (.lst true []),
    .for_ (.tup [.name 4, .name 5]) (.seq (.var 1))
      [.ite (.din true (.var 4) (.var 2))
        [.setK (.var 2) (.var 4) (.bl true),
        .ite (.call 29 [.var 4])
          [.ret (.var 5)]
          [],
        .for_ (.name 6) (.seq (.lst false [.bl false, .bl true]))
          [.expr (.append (.var 3) (.tup [.call 28 [.var 0, .var 4, .var 6], .bin .add (.var 5) (.tup [.var 6])]))]]
        []],
    .asg (.name 1) (.frz (.var 3))]) ρ st).bind (kSs c f_law_shut_row_2) := r_ss
theorem f_law_shut_row_x2 {c : Ev.Ctx} {ρ : Ev.Env} {st : Store} : evSs c f_law_shut_row_2 ρ st = (evS c (.ret (.non)) ρ st).bind (kSs c []) := r_ss
def f_law_shut_row : Fn := ⟨1, 7, f_law_shut_row_0⟩
/-- 31 -/
def f_law_1 : List S := .ret (.bl true) ::
  []
def f_law_0 : List S := .for_ (.name 1) (.rng1 (.bin .add (.prim .min2 [.prim .len [.var 0], .int 5]) (.int 1)))
    [.asg (.name 2) (.call 16 [.var 0, .var 1]),
    .asg (.name 3) (.call 21 [.var 2]),
    .asg (.tup [.name 7, .name 8]) (.tup [.call 15 [.var 3], .call 30 [.var 3]]),
    .ite (.not (.call 19 [.var 7, .var 8]))
      [.ret (.bl false)]
      [],
    .asg (.name 4) (.ite (.cmp .is_ (.var 7) (.non)) (.int 30) (.prim .len [.var 7])),
    .for_ (.name 5) (.rng1 (.int 5))
      [.asg (.name 9) (.prim .tuple [.prim .dsorted [.call 27 [.var 3]]]),
      .for_ (.name 10) (.rng1 (.call 17 [.var 2, .prim .max2 [.int 1, .var 4]]))
        [.asg (.name 9) (.call 28 [.var 3, .var 9, .cmp .eq (.call 17 [.var 2, .int 2]) (.int 0)])],
      .ite (.call 29 [.var 9])
        [.ret (.bl false)]
        []],
    .for_ (.name 6) (.keys (.call 27 [.var 3]))
      [.for_ (.name 11) (.seq (.ite (.cmp .isnot (.var 7) (.non)) (.var 7) (.tup [])))
        [.asg (.name 6) (.sub (.call 24 [.var 3, .var 6, .tup [.var 11, .bl false, .bl false]]) (.int 0))],
      .ite (.and (.cmp .isnot (.var 7) (.non)) (.cmp .ne (.cut (.var 6) none (some (.int 2))) (.tup [.int 0, .int 0])))
        [.ret (.bl false)]
        []]] ::
  f_law_1
theorem f_law_x0 {c : Ev.Ctx} {ρ : Ev.Env} {st : Store} : evSs c f_law_0 ρ st = (evS c (.for_ (.name 1) (.rng1 (.bin .add (.prim .min2 [.prim .len [.var 0], .int 5]) (.int 1)))
    [.asg (.name 2) (.call 16 [.var 0, .var 1]),
    .asg (.name 3) (.call 21 [.var 2]),
    .asg (.tup [.name 7, .name 8]) (.tup [.call 15 [.var 3], .call 30 [.var 3]]),
    .ite (.not (.call 19 [.var 7, .var 8]))
      [.ret (.bl false)]
      [],
    .asg (.name 4) (.ite (.cmp .is_ (.var 7) (.non)) (.int 30) (.prim .len [.var 7])),
    .for_ (.name 5) (.rng1 (.int 5))
      [.asg (.name 9) (.prim .tuple [.prim .dsorted [.call 27 [.var 3]]]),
      .for_ (.name 10) (.rng1 (.call 17 [.var 2, .prim .max2 [.int 1, .var 4]]))
        [.asg (.name 9) (.call 28 [.var 3, .var 9, .cmp .eq (.call 17 [.var 2, .int 2]) (.int 0)])],
      .ite (.call 29 [.var 9])
        [.ret (.bl false)]
        []],
    .for_ (.name 6) (.keys (.call 27 [.var 3]))
      [.for_ (.name 11) (.seq (.ite (.cmp .isnot (.var 7) (.non)) (.var 7) (.tup [])))
        [.asg (.name 6) (.sub (.call 24 [.var 3, .var 6, .tup [.var 11, .bl false, .bl false]]) (.int 0))],
      .ite (.and (.cmp .isnot (.var 7) (.non)) (.cmp .ne (.cut (.var 6) none (some (.int 2))) (.tup [.int 0, .int 0])))
        [.ret (.bl false)]
        []]]) ρ st).bind (kSs c f_law_1) := r_ss
theorem f_law_x1 {c : Ev.Ctx} {ρ : Ev.Env} {st : Store} : evSs c f_law_1 ρ st = (evS c (.ret (.bl true)) ρ st).bind (kSs c []) := r_ss
def f_law : Fn := ⟨1, 12, f_law_0⟩
def tab : List Fn := [f_is_within, f_is_row, f_is_word, f_is_program, f_is_plan, f_look_at_plan, f_stopped, f_cut_off, f_ordered, f_passed, f_choices_of, f_ways_by, f_led, f_is_shut, f_row_by, f_shut_row, f_law_spring, f_law_pick, f_law_kind, f_law_twins, f_law_program, f_law_plan, f_law_choice, f_law_stop, f_law_tick, f_law_lit, f_law_all_choices, f_law_ways, f_law_led, f_law_is_shut, f_law_shut_row, f_law]
def T (n : Nat) : Option Fn := tab[n]?
end K06

namespace K06
open PySem PySem.Spec PyProof.Rows L2 Ev
def gd0 : List (Str × Nat × Nat) := [("is_within", 0, 3), ("is_row", 1, 2), ("is_word", 2, 2), ("is_program", 3, 1), ("is_plan", 4, 1), ("look_at_plan", 5, 1), ("stopped", 6, 2), ("cut_off", 7, 2), ("ordered", 8, 3), ("passed", 9, 3), ("choices_of", 10, 0), ("ways_by", 11, 1), ("led", 12, 3), ("is_shut", 13, 1), ("row_by", 14, 1), ("shut_row", 15, 1), ("_law_spring", 16, 2), ("_law_pick", 17, 2), ("_law_kind", 18, 1), ("_law_twins", 19, 2)]
def gd1 : List (Str × Nat × Nat) := [("_law_program", 20, 1), ("_law_plan", 21, 1), ("_law_choice", 22, 1), ("_law_stop", 23, 2), ("_law_tick", 24, 3), ("_law_lit", 25, 2), ("_law_all_choices", 26, 0), ("_law_ways", 27, 1), ("_law_led", 28, 3), ("_law_is_shut", 29, 1), ("_law_shut_row", 30, 1), ("law", 31, 1)]
def gam : Gam := ⟨[("RESUMES", (.tup [(.str s_other), (.str s_same), (.str s_up)])), ("LAMPS", (.tup [(.str s_moves), (.str s_none), (.str s_open)])), ("BEGIN", (.tup [(.int 0), (.int 0), (.int 1), (.int 0)]))], gd0 ++ gd1⟩
def top (i : Nat) : Stmt := PySem.Challenge.pw_blindpress_k06_whole_rows_that_shut_blin.main.body.getD i (.Pass ⟨0, 0, 0, 0⟩)
def e0 : En := ⟨"is_within", 0, ["value", "low", "high"], ["value", "low", "high"], top 7, f_is_within⟩
def e1 : En := ⟨"is_row", 1, ["value", "many"], ["value", "many"], top 8, f_is_row⟩
def e2 : En := ⟨"is_word", 2, ["value", "words"], ["value", "words"], top 9, f_is_word⟩
def e3 : En := ⟨"is_program", 3, ["value"], ["value"], top 10, f_is_program⟩
def e4 : En := ⟨"is_plan", 4, ["value"], ["value"], top 11, f_is_plan⟩
def e5 : En := ⟨"look_at_plan", 5, ["plan"], ["plan"], top 12, f_look_at_plan⟩
def e6 : En := ⟨"stopped", 6, ["plan", "moves"], ["plan", "moves"], top 14, f_stopped⟩
def e7 : En := ⟨"cut_off", 7, ["plan", "stand", "height", "moves", "later", "timer"], ["plan", "stand"], top 15, f_cut_off⟩
def e8 : En := ⟨"ordered", 8, ["plan", "stand", "press", "clock", "height", "moves", "later", "timer"], ["plan", "stand", "press"], top 16, f_ordered⟩
def e9 : En := ⟨"passed", 9, ["plan", "stand", "choice", "turned", "there", "words", "press", "stands", "cut", "lift", "height", "moves", "later", "timer"], ["plan", "stand", "choice"], top 17, f_passed⟩
def e10 : En := ⟨"choices_of", 10, ["found", "press", "stands"], [], top 19, f_choices_of⟩
def e11 : En := ⟨"ways_by", 11, ["plan", "found", "waiting", "at", "stand", "choice", "there"], ["plan"], top 20, f_ways_by⟩
def e12 : En := ⟨"led", 12, ["plan", "crowd", "press", "stand"], ["plan", "crowd", "press"], top 22, f_led⟩
def e13 : En := ⟨"is_shut", 13, ["crowd", "stand"], ["crowd"], top 23, f_is_shut⟩
def e14 : En := ⟨"row_by", 14, ["plan", "first", "found", "waiting", "at", "crowd", "press", "there"], ["plan"], top 24, f_row_by⟩
def e15 : En := ⟨"shut_row", 15, ["plan"], ["plan"], top 25, f_shut_row⟩
def e16 : En := ⟨"_law_spring", 16, ["script", "at", "cell", "mixed"], ["script", "at"], top 27, f_law_spring⟩
def e17 : En := ⟨"_law_pick", 17, ["spring", "many", "digit"], ["spring", "many"], top 28, f_law_pick⟩
def e18 : En := ⟨"_law_kind", 18, ["value"], ["value"], top 29, f_law_kind⟩
def e19 : En := ⟨"_law_twins", 19, ["one", "other", "a", "b"], ["one", "other"], top 30, f_law_twins⟩
def e20 : En := ⟨"_law_program", 20, ["spring", "resume", "way", "eye", "clock", "memory"], ["spring"], top 31, f_law_program⟩
def e21 : En := ⟨"_law_plan", 21, ["spring"], ["spring"], top 32, f_law_plan⟩
def e22 : En := ⟨"_law_choice", 22, ["spring"], ["spring"], top 33, f_law_choice⟩
def e23 : En := ⟨"_law_stop", 23, ["plan", "stand"], ["plan", "stand"], top 34, f_law_stop⟩
def e24 : En := ⟨"_law_tick", 24, ["plan", "stand", "choice", "there", "lift", "height", "moves", "later", "timer", "press", "somebody", "cut", "words_so", "starts", "resume", "eye", "clock", "way", "memory"], ["plan", "stand", "choice"], top 35, f_law_tick⟩
def e25 : En := ⟨"_law_lit", 25, ["plan", "stand"], ["plan", "stand"], top 36, f_law_lit⟩
def e26 : En := ⟨"_law_all_choices", 26, ["found", "number"], [], top 37, f_law_all_choices⟩
def e27 : En := ⟨"_law_ways", 27, ["plan", "begin", "found", "queue", "at", "stand", "choice", "there"], ["plan"], top 38, f_law_ways⟩
def e28 : En := ⟨"_law_led", 28, ["plan", "crowd", "press", "stand"], ["plan", "crowd", "press"], top 39, f_law_led⟩
def e29 : En := ⟨"_law_is_shut", 29, ["crowd", "stand"], ["crowd"], top 40, f_law_is_shut⟩
def e30 : En := ⟨"_law_shut_row", 30, ["plan", "line", "met", "later", "crowd", "row", "press"], ["plan"], top 41, f_law_shut_row⟩
def e31 : En := ⟨"law", 31, ["script", "at", "spring", "plan", "most", "turn", "stand", "row", "due", "crowd", "tick", "press"], ["script"], top 42, f_law⟩
def ens : List En := [e0, e1, e2, e3, e4, e5, e6, e7, e8, e9, e10, e11, e12, e13, e14, e15, e16, e17, e18, e19, e20, e21, e22, e23, e24, e25, e26, e27, e28, e29, e30, e31]
theorem c0 : enOk gam T e0 = true := by decide +kernel
theorem c1 : enOk gam T e1 = true := by decide +kernel
theorem c2 : enOk gam T e2 = true := by decide +kernel
theorem c3 : enOk gam T e3 = true := by decide +kernel
theorem c4 : enOk gam T e4 = true := by decide +kernel
theorem c5 : enOk gam T e5 = true := by decide +kernel
theorem c6 : enOk gam T e6 = true := by decide +kernel
theorem c7 : enOk gam T e7 = true := by decide +kernel
theorem c8 : enOk gam T e8 = true := by decide +kernel
theorem c9 : enOk gam T e9 = true := by decide +kernel
theorem c10 : enOk gam T e10 = true := by decide +kernel
theorem c11 : enOk gam T e11 = true := by decide +kernel
theorem c12 : enOk gam T e12 = true := by decide +kernel
theorem c13 : enOk gam T e13 = true := by decide +kernel
theorem c14 : enOk gam T e14 = true := by decide +kernel
theorem c15 : enOk gam T e15 = true := by decide +kernel
theorem c16 : enOk gam T e16 = true := by decide +kernel
theorem c17 : enOk gam T e17 = true := by decide +kernel
theorem c18 : enOk gam T e18 = true := by decide +kernel
theorem c19 : enOk gam T e19 = true := by decide +kernel
theorem c20 : enOk gam T e20 = true := by decide +kernel
theorem c21 : enOk gam T e21 = true := by decide +kernel
theorem c22 : enOk gam T e22 = true := by decide +kernel
theorem c23 : enOk gam T e23 = true := by decide +kernel
theorem c24 : enOk gam T e24 = true := by decide +kernel
theorem c25 : enOk gam T e25 = true := by decide +kernel
theorem c26 : enOk gam T e26 = true := by decide +kernel
theorem c27 : enOk gam T e27 = true := by decide +kernel
theorem c28 : enOk gam T e28 = true := by decide +kernel
theorem c29 : enOk gam T e29 = true := by decide +kernel
theorem c30 : enOk gam T e30 = true := by decide +kernel
theorem c31 : enOk gam T e31 = true := by decide +kernel
theorem b0 : BindsOk e0 := fun _ _ _ _ _ _ us hl => match us, hl with | [_, _, _], _ => rfl
theorem b1 : BindsOk e1 := fun _ _ _ _ _ _ us hl => match us, hl with | [_, _], _ => rfl
theorem b2 : BindsOk e2 := fun _ _ _ _ _ _ us hl => match us, hl with | [_, _], _ => rfl
theorem b3 : BindsOk e3 := fun _ _ _ _ _ _ us hl => match us, hl with | [_], _ => rfl
theorem b4 : BindsOk e4 := fun _ _ _ _ _ _ us hl => match us, hl with | [_], _ => rfl
theorem b5 : BindsOk e5 := fun _ _ _ _ _ _ us hl => match us, hl with | [_], _ => rfl
theorem b6 : BindsOk e6 := fun _ _ _ _ _ _ us hl => match us, hl with | [_, _], _ => rfl
theorem b7 : BindsOk e7 := fun _ _ _ _ _ _ us hl => match us, hl with | [_, _], _ => rfl
theorem b8 : BindsOk e8 := fun _ _ _ _ _ _ us hl => match us, hl with | [_, _, _], _ => rfl
theorem b9 : BindsOk e9 := fun _ _ _ _ _ _ us hl => match us, hl with | [_, _, _], _ => rfl
theorem b10 : BindsOk e10 := fun _ _ _ _ _ _ us hl => match us, hl with | [], _ => rfl
theorem b11 : BindsOk e11 := fun _ _ _ _ _ _ us hl => match us, hl with | [_], _ => rfl
theorem b12 : BindsOk e12 := fun _ _ _ _ _ _ us hl => match us, hl with | [_, _, _], _ => rfl
theorem b13 : BindsOk e13 := fun _ _ _ _ _ _ us hl => match us, hl with | [_], _ => rfl
theorem b14 : BindsOk e14 := fun _ _ _ _ _ _ us hl => match us, hl with | [_], _ => rfl
theorem b15 : BindsOk e15 := fun _ _ _ _ _ _ us hl => match us, hl with | [_], _ => rfl
theorem b16 : BindsOk e16 := fun _ _ _ _ _ _ us hl => match us, hl with | [_, _], _ => rfl
theorem b17 : BindsOk e17 := fun _ _ _ _ _ _ us hl => match us, hl with | [_, _], _ => rfl
theorem b18 : BindsOk e18 := fun _ _ _ _ _ _ us hl => match us, hl with | [_], _ => rfl
theorem b19 : BindsOk e19 := fun _ _ _ _ _ _ us hl => match us, hl with | [_, _], _ => rfl
theorem b20 : BindsOk e20 := fun _ _ _ _ _ _ us hl => match us, hl with | [_], _ => rfl
theorem b21 : BindsOk e21 := fun _ _ _ _ _ _ us hl => match us, hl with | [_], _ => rfl
theorem b22 : BindsOk e22 := fun _ _ _ _ _ _ us hl => match us, hl with | [_], _ => rfl
theorem b23 : BindsOk e23 := fun _ _ _ _ _ _ us hl => match us, hl with | [_, _], _ => rfl
theorem b24 : BindsOk e24 := fun _ _ _ _ _ _ us hl => match us, hl with | [_, _, _], _ => rfl
theorem b25 : BindsOk e25 := fun _ _ _ _ _ _ us hl => match us, hl with | [_, _], _ => rfl
theorem b26 : BindsOk e26 := fun _ _ _ _ _ _ us hl => match us, hl with | [], _ => rfl
theorem b27 : BindsOk e27 := fun _ _ _ _ _ _ us hl => match us, hl with | [_], _ => rfl
theorem b28 : BindsOk e28 := fun _ _ _ _ _ _ us hl => match us, hl with | [_, _, _], _ => rfl
theorem b29 : BindsOk e29 := fun _ _ _ _ _ _ us hl => match us, hl with | [_], _ => rfl
theorem b30 : BindsOk e30 := fun _ _ _ _ _ _ us hl => match us, hl with | [_], _ => rfl
theorem b31 : BindsOk e31 := fun _ _ _ _ _ _ us hl => match us, hl with | [_], _ => rfl
theorem allOk : ∀ e ∈ ens, enOk gam T e = true ∧ T e.id = some e.fn := by
  intro e he
  simp only [ens, List.mem_cons, List.not_mem_nil, or_false] at he
  rcases he with rfl | rfl | rfl | rfl | rfl | rfl | rfl | rfl | rfl | rfl | rfl | rfl | rfl | rfl | rfl | rfl | rfl | rfl | rfl | rfl | rfl | rfl | rfl | rfl | rfl | rfl | rfl | rfl | rfl | rfl | rfl | rfl
  · exact ⟨c0, rfl⟩
  · exact ⟨c1, rfl⟩
  · exact ⟨c2, rfl⟩
  · exact ⟨c3, rfl⟩
  · exact ⟨c4, rfl⟩
  · exact ⟨c5, rfl⟩
  · exact ⟨c6, rfl⟩
  · exact ⟨c7, rfl⟩
  · exact ⟨c8, rfl⟩
  · exact ⟨c9, rfl⟩
  · exact ⟨c10, rfl⟩
  · exact ⟨c11, rfl⟩
  · exact ⟨c12, rfl⟩
  · exact ⟨c13, rfl⟩
  · exact ⟨c14, rfl⟩
  · exact ⟨c15, rfl⟩
  · exact ⟨c16, rfl⟩
  · exact ⟨c17, rfl⟩
  · exact ⟨c18, rfl⟩
  · exact ⟨c19, rfl⟩
  · exact ⟨c20, rfl⟩
  · exact ⟨c21, rfl⟩
  · exact ⟨c22, rfl⟩
  · exact ⟨c23, rfl⟩
  · exact ⟨c24, rfl⟩
  · exact ⟨c25, rfl⟩
  · exact ⟨c26, rfl⟩
  · exact ⟨c27, rfl⟩
  · exact ⟨c28, rfl⟩
  · exact ⟨c29, rfl⟩
  · exact ⟨c30, rfl⟩
  · exact ⟨c31, rfl⟩
theorem allB : ∀ e ∈ ens, BindsOk e := by
  intro e he
  simp only [ens, List.mem_cons, List.not_mem_nil, or_false] at he
  rcases he with rfl | rfl | rfl | rfl | rfl | rfl | rfl | rfl | rfl | rfl | rfl | rfl | rfl | rfl | rfl | rfl | rfl | rfl | rfl | rfl | rfl | rfl | rfl | rfl | rfl | rfl | rfl | rfl | rfl | rfl | rfl | rfl
  · exact b0
  · exact b1
  · exact b2
  · exact b3
  · exact b4
  · exact b5
  · exact b6
  · exact b7
  · exact b8
  · exact b9
  · exact b10
  · exact b11
  · exact b12
  · exact b13
  · exact b14
  · exact b15
  · exact b16
  · exact b17
  · exact b18
  · exact b19
  · exact b20
  · exact b21
  · exact b22
  · exact b23
  · exact b24
  · exact b25
  · exact b26
  · exact b27
  · exact b28
  · exact b29
  · exact b30
  · exact b31
theorem allD : ∀ x f n, (x, f, n) ∈ gam.defs → ∃ e ∈ ens, e.x = x ∧ e.id = f ∧ e.ps.length = n := by
  intro x f n h
  simp only [gam, gd0, gd1, List.mem_append, or_assoc, List.mem_cons, List.not_mem_nil, or_false, Prod.mk.injEq] at h
  rcases h with ⟨rfl, rfl, rfl⟩ | ⟨rfl, rfl, rfl⟩ | ⟨rfl, rfl, rfl⟩ | ⟨rfl, rfl, rfl⟩ | ⟨rfl, rfl, rfl⟩ | ⟨rfl, rfl, rfl⟩ | ⟨rfl, rfl, rfl⟩ | ⟨rfl, rfl, rfl⟩ | ⟨rfl, rfl, rfl⟩ | ⟨rfl, rfl, rfl⟩ | ⟨rfl, rfl, rfl⟩ | ⟨rfl, rfl, rfl⟩ | ⟨rfl, rfl, rfl⟩ | ⟨rfl, rfl, rfl⟩ | ⟨rfl, rfl, rfl⟩ | ⟨rfl, rfl, rfl⟩ | ⟨rfl, rfl, rfl⟩ | ⟨rfl, rfl, rfl⟩ | ⟨rfl, rfl, rfl⟩ | ⟨rfl, rfl, rfl⟩ | ⟨rfl, rfl, rfl⟩ | ⟨rfl, rfl, rfl⟩ | ⟨rfl, rfl, rfl⟩ | ⟨rfl, rfl, rfl⟩ | ⟨rfl, rfl, rfl⟩ | ⟨rfl, rfl, rfl⟩ | ⟨rfl, rfl, rfl⟩ | ⟨rfl, rfl, rfl⟩ | ⟨rfl, rfl, rfl⟩ | ⟨rfl, rfl, rfl⟩ | ⟨rfl, rfl, rfl⟩ | ⟨rfl, rfl, rfl⟩
  · exact ⟨e0, by simp [ens], rfl, rfl, rfl⟩
  · exact ⟨e1, by simp [ens], rfl, rfl, rfl⟩
  · exact ⟨e2, by simp [ens], rfl, rfl, rfl⟩
  · exact ⟨e3, by simp [ens], rfl, rfl, rfl⟩
  · exact ⟨e4, by simp [ens], rfl, rfl, rfl⟩
  · exact ⟨e5, by simp [ens], rfl, rfl, rfl⟩
  · exact ⟨e6, by simp [ens], rfl, rfl, rfl⟩
  · exact ⟨e7, by simp [ens], rfl, rfl, rfl⟩
  · exact ⟨e8, by simp [ens], rfl, rfl, rfl⟩
  · exact ⟨e9, by simp [ens], rfl, rfl, rfl⟩
  · exact ⟨e10, by simp [ens], rfl, rfl, rfl⟩
  · exact ⟨e11, by simp [ens], rfl, rfl, rfl⟩
  · exact ⟨e12, by simp [ens], rfl, rfl, rfl⟩
  · exact ⟨e13, by simp [ens], rfl, rfl, rfl⟩
  · exact ⟨e14, by simp [ens], rfl, rfl, rfl⟩
  · exact ⟨e15, by simp [ens], rfl, rfl, rfl⟩
  · exact ⟨e16, by simp [ens], rfl, rfl, rfl⟩
  · exact ⟨e17, by simp [ens], rfl, rfl, rfl⟩
  · exact ⟨e18, by simp [ens], rfl, rfl, rfl⟩
  · exact ⟨e19, by simp [ens], rfl, rfl, rfl⟩
  · exact ⟨e20, by simp [ens], rfl, rfl, rfl⟩
  · exact ⟨e21, by simp [ens], rfl, rfl, rfl⟩
  · exact ⟨e22, by simp [ens], rfl, rfl, rfl⟩
  · exact ⟨e23, by simp [ens], rfl, rfl, rfl⟩
  · exact ⟨e24, by simp [ens], rfl, rfl, rfl⟩
  · exact ⟨e25, by simp [ens], rfl, rfl, rfl⟩
  · exact ⟨e26, by simp [ens], rfl, rfl, rfl⟩
  · exact ⟨e27, by simp [ens], rfl, rfl, rfl⟩
  · exact ⟨e28, by simp [ens], rfl, rfl, rfl⟩
  · exact ⟨e29, by simp [ens], rfl, rfl, rfl⟩
  · exact ⟨e30, by simp [ens], rfl, rfl, rfl⟩
  · exact ⟨e31, by simp [ens], rfl, rfl, rfl⟩
def lawIx : Nat := 42
def lawId : Nat := 31
def loose0 : List Str := ["DoorError", "InvalidPlan", "RESUMES", "LAMPS", "BEGIN", "is_within", "is_row", "is_word", "is_program", "is_plan", "look_at_plan", "stopped", "cut_off", "ordered", "passed", "choices_of", "ways_by", "led", "is_shut", "row_by", "shut_row", "_law_spring", "_law_pick", "_law_kind", "_law_twins", "_law_program", "_law_plan", "_law_choice", "_law_stop", "_law_tick"]
def loose1 : List Str := ["_law_lit", "_law_all_choices", "_law_ways", "_law_led", "_law_is_shut", "_law_shut_row"]
abbrev R : PySem.W.OpenRow := PySem.W.OpenLaw.row PySem.Challenge.rw_blindpress_k06_whole_rows_that_shut_blin
abbrev hk : PySem.W.Hook := hookE 4 (factsOf ens) (ens.map defOf) gam.consts
def ob (s : PySem.W.SharedT) : AlE := obsE 4 (factsOf ens) (ens.map defOf) gam.consts (HandSHeadRun.getT s)
theorem ob_eq (s : PySem.W.SharedT) : ob s = hk.obs s.abs := obsE_eq (HandSHeadRun.getT_eq s)
theorem run (w : World) : HandSHeadRun.RunEq R (PySem.W.view R.prog [42]) hk ob 4000 (loose0 ++ loose1) w := by
  intro os
  kernel_rfl
/-- the law, once its plain run is known -/
theorem holds (fuel k : Nat) (hk0 : k ≤ 100) (plain : ∀ ns : List Int, ns.length ≤ 63 → ∃ st', evCall T fuel k 31 [.ro (ns.map .int)] [] = some (.bl true, st')) : PySem.Challenge.rw_blindpress_k06_whole_rows_that_shut_blin.Holds := by
  w_on; o_law
  refine HandSHeadRun.head_any (r := PySem.W.OpenLaw.row PySem.Challenge.rw_blindpress_k06_whole_rows_that_shut_blin) (q := PySem.W.view (PySem.W.OpenLaw.row PySem.Challenge.rw_blindpress_k06_whole_rows_that_shut_blin).prog [42]) (H := hk) (ob := ob) (M := 4000) (loose := (loose0 ++ loose1)) (d := HandSHeadRun.topDef (PySem.W.OpenLaw.row PySem.Challenge.rw_blindpress_k06_whole_rows_that_shut_blin).prog 42) (kwd := []) ob_eq
    (by kernel_rfl) (fun s => by kernel_rfl) run (by kernel_rfl) (by kernel_rfl) (by kernel_rfl) (by rfl) (by first | assumption | decide +kernel) (by decide +kernel) ⟨rfl, rfl, rfl, rfl, rfl, by decide +kernel⟩ ?hw ?hc
  case hw => w_witness2
  case hc =>
    refine L2.walk_ofE (l := PySem.Challenge.rw_blindpress_k06_whole_rows_that_shut_blin) (n := 63) (k := k) (x := "script") (CX := L2.CX0) rfl (by decide) (by kernel_rfl) (L2.Room.mono (k := 100) ⟨rfl, by decide, by decide⟩ hk0) ?F (fun _ _ _ _ z => z)
    intro w mg fa h Y G hmg0
    obtain ⟨K, KX, c, cc⟩ := Y
    have hmg : mg ("law" : PySem.Str) = some (.ref fa) := by
      have e : (HandSHeadRun.topDef (PySem.W.OpenLaw.row PySem.Challenge.rw_blindpress_k06_whole_rows_that_shut_blin).prog 42).name = ("law" : PySem.Str) := by kernel_rfl
      rw [← e]
      exact hmg0
    have g := fun (base : Heap) => stage_of (P := (PySem.Challenge.rw_blindpress_k06_whole_rows_that_shut_blin).prog) (w := w) KX G c cc allD allOk allB
    obtain ⟨a, fd, e1, F, hb⟩ := (g h).en e31 (by simp [ens])
    have e2 : some (Value.ref a) = some (.ref fa) := e1.symm.trans hmg
    cases e2
    refine ⟨K, fd, spEv K (evCall T fuel k) 31 1, KX, fun s v => FunD.bindsA (ps := ["script"]) F b31 s [v] rfl, fun H a ns hl _ hS => ?_, fun base _ _ => lev (g base) fuel k e31 (by simp [ens]) _ fd F⟩
    obtain ⟨st', hp⟩ := plain ns hl
    exact law_sp H a ns hS hp
end K06

namespace K06
open PySem Ev
theorem ev_within (fuel k : Nat) (v lo hi : Int) (st : Store) : evCall T fuel (k + 1) 0 [.int v, .int lo, .int hi] st = some (.bl (decide (lo ≤ v) && decide (v ≤ hi)), st) := by
  rw [call_eq (fn := f_is_within) rfl rfl]
  by_cases h : lo ≤ v <;> simp -implicitDefEqProofs [f_is_within, f_is_within_x0, h, r_din, r_din1, r_din2, r_din3, r_pop, r_pop1, r_gt, r_gt1, r_gt2, r_cat, r_cat1, r_cat2, r_cat3, r_sk, r_sk1, r_sk2, r_sk3, r_keys, r_keys1, r_items, r_items1, r_dcm, r_dcm1, r_dcm2, r_dcs, r_dcs1, r_dcs2, r_dcs3, r_dcs4, r_whl, r_dctB, v_rd_ro, r_var, r_glob, r_int, r_bl, r_non, r_str, r_tup, r_tup1, r_lst, r_lst0, r_lst1, r_dct, r_dct1, r_dct2, r_fn, r_bin, r_bin1, r_bin2, r_neg, r_neg1, r_not, r_not1, r_and, r_and1, r_or, r_or1, r_ite, r_ite1, r_kbl, r_cmp, r_cmp1, r_cmp2, r_chain, r_chain1, r_chain2, r_chain3, r_chain4, r_call, r_call1, r_prim, r_prim1, r_primB, r_primB1, r_new, r_sub, r_sub1, r_sub2, r_dsub, r_dsub1, r_dsub2, r_app, r_app1, r_app2, r_get, r_get1, r_get2, r_get3, r_frz, r_frz1, r_es0, r_es, r_es1, r_es2, r_ps0, r_ps, r_ps1, r_ps2, r_ps3, r_o0, r_o, r_o1, r_g0, r_g, r_g1, r_cut, r_cut0, r_cut1, r_cut2, r_comp, r_comp1, r_comp2, r_step, r_step1, r_step2, r_step3, r_walkL0, r_walkL, r_walkL1, r_seq, r_seq1, r_seq2, r_rng1, r_rng1a, r_rng2, r_rng2a, r_rng2b, r_in, r_zip, r_zip1, r_zip2, r_c, r_asg, r_asg1, r_nx, r_set, r_set1, r_set2, r_set3, r_st, r_expr, r_expr1, r_ret, r_ret1, r_if, r_if1, r_pass, r_ss0, r_ss, r_ss1, r_ss2, r_for, r_for1, r_fstep, r_for2, r_walkF0, r_walkF, r_walkF1, r_walkF2, v_rd_int, v_rd_bl, v_rd_str, v_rd_non, v_rd_tup, v_rd_lst, v_rd_dct, v_rR_int, v_rR_bl, v_rR_str, v_rR_non, v_rR_tup, v_rR_lst, v_rR_dct, v_rR_ro, v_rR_box, v_and, v_or, a_0, a_1, a_2, a_3, a_4, p_int, p_inti, p_lenl, p_lent, p_max, p_min, p_abs, p_all3, f_sd, f_w, p_isint, p_isinl, p_isini, p_isinb, p_isins, p_isinn, c_isn, c_isb, c_isi, c_iss, c_ist, c_isl, c_inl, c_int, b_add, b_sub, b_mul, b_mul0, b_mul1, b_w2, b_w3, v_rd_w, v_un_w, c_eqi, c_nei, c_eqs, c_lt, c_le, c_gt, c_ge, s_t, s_l, t_nm, t_tp, t_0, t_1, u_int, u_bl, u_str, u_non, u_tup, u_lst, u_0, u_1, u_s, l_5, l_4, l_3, l_2, l_1, l_0, v_ite_bl, v_ite_int, binD, cmpD, primD, subD, dsubD, atD, bindT, bindTs, D.under, D.unders, isTy, inD, isStr, allStr, eqD, scal, D.eqv, D.eqvs, fin_bl, fin_int, fin_tup, fin_lst, fin_nx, LIM, Option.bind_some, Option.map_some]
theorem ev_row (fuel k : Nat) (ds : List D) (n : Int) (st : Store) : evCall T fuel (k + 1) 1 [.tup ds, .int n] st = some (.bl (decide ((ds.length : Int) = n)), st) := by
  rw [call_eq (fn := f_is_row) rfl rfl]
  simp -implicitDefEqProofs only [f_is_row, f_is_row_x0, r_din, r_din1, r_din2, r_din3, r_pop, r_pop1, r_gt, r_gt1, r_gt2, r_cat, r_cat1, r_cat2, r_cat3, r_sk, r_sk1, r_sk2, r_sk3, r_keys, r_keys1, r_items, r_items1, r_dcm, r_dcm1, r_dcm2, r_dcs, r_dcs1, r_dcs2, r_dcs3, r_dcs4, r_whl, r_dctB, v_rd_ro, r_var, r_glob, r_int, r_bl, r_non, r_str, r_tup, r_tup1, r_lst, r_lst0, r_lst1, r_dct, r_dct1, r_dct2, r_fn, r_bin, r_bin1, r_bin2, r_neg, r_neg1, r_not, r_not1, r_and, r_and1, r_or, r_or1, r_ite, r_ite1, r_kbl, r_cmp, r_cmp1, r_cmp2, r_chain, r_chain1, r_chain2, r_chain3, r_chain4, r_call, r_call1, r_prim, r_prim1, r_primB, r_primB1, r_new, r_sub, r_sub1, r_sub2, r_dsub, r_dsub1, r_dsub2, r_app, r_app1, r_app2, r_get, r_get1, r_get2, r_get3, r_frz, r_frz1, r_es0, r_es, r_es1, r_es2, r_ps0, r_ps, r_ps1, r_ps2, r_ps3, r_o0, r_o, r_o1, r_g0, r_g, r_g1, r_cut, r_cut0, r_cut1, r_cut2, r_comp, r_comp1, r_comp2, r_step, r_step1, r_step2, r_step3, r_walkL0, r_walkL, r_walkL1, r_seq, r_seq1, r_seq2, r_rng1, r_rng1a, r_rng2, r_rng2a, r_rng2b, r_in, r_zip, r_zip1, r_zip2, r_c, r_asg, r_asg1, r_nx, r_set, r_set1, r_set2, r_set3, r_st, r_expr, r_expr1, r_ret, r_ret1, r_if, r_if1, r_pass, r_ss0, r_ss, r_ss1, r_ss2, r_for, r_for1, r_fstep, r_for2, r_walkF0, r_walkF, r_walkF1, r_walkF2, v_rd_int, v_rd_bl, v_rd_str, v_rd_non, v_rd_tup, v_rd_lst, v_rd_dct, v_rR_int, v_rR_bl, v_rR_str, v_rR_non, v_rR_tup, v_rR_lst, v_rR_dct, v_rR_ro, v_rR_box, v_and, v_or, a_0, a_1, a_2, a_3, a_4, p_int, p_inti, p_lenl, p_lent, p_max, p_min, p_abs, p_all3, f_sd, f_w, p_isint, p_isinl, p_isini, p_isinb, p_isins, p_isinn, c_isn, c_isb, c_isi, c_iss, c_ist, c_isl, c_inl, c_int, b_add, b_sub, b_mul, b_mul0, b_mul1, b_w2, b_w3, v_rd_w, v_un_w, c_eqi, c_nei, c_eqs, c_lt, c_le, c_gt, c_ge, s_t, s_l, t_nm, t_tp, t_0, t_1, u_int, u_bl, u_str, u_non, u_tup, u_lst, u_0, u_1, u_s, l_5, l_4, l_3, l_2, l_1, l_0, n_0, n_1, n_2, n_3, n_4, n_5, n_6, n_7, n_8, n_9, n_10, n_11, n_12, m_0, m_1, m_2, m_3, m_4, m_5, m_6, m_7, m_8, m_9, m_10, m_11, m_12, m_13, m_14, m_15, m_16, i_23, eq_nn, eq_bb, eq_ll, beq_self_eq_true, isTy, fin_bl, fin_int, fin_tup, fin_lst, fin_nx, Option.bind_some, Option.map_some, List.map_cons, List.map_nil, List.length_cons, List.length_nil, List.replicate, List.getElem?_cons_zero, List.getElem?_cons_succ, List.set_cons_zero, List.set_cons_succ, List.cons_append, List.nil_append, List.append_nil, Nat.sub_self, List.take_length, Bool.false_eq_true, reduceIte, Bool.and_true, Bool.true_and, Bool.not_true, Bool.not_false, Bool.false_and, Bool.and_false, Nat.reduceSub, List.replicate_succ, List.replicate_zero, Nat.succ_sub_succ, decide_true, decide_false, Int.reduceEq, Int.reduceLT, Int.reduceLE, Int.reduceNeg, Int.reduceGT, gt_iff_lt, ge_iff_le, Bool.and_assoc, List.any_cons, List.any_nil, Bool.or_true, Bool.true_or, Bool.or_false, Bool.false_or]
theorem ev_word_r (fuel k : Nat) (r : Rs) (st : Store) : evCall T fuel (k + 1) 2 [.str r.s, .tup [.str s_other, .str s_same, .str s_up]] st = some (.bl true, st) := by
  rw [call_eq (fn := f_is_word) rfl rfl]
  cases r <;> simp -implicitDefEqProofs [f_is_word, f_is_word_x0, Rs.s, r_din, r_din1, r_din2, r_din3, r_pop, r_pop1, r_gt, r_gt1, r_gt2, r_cat, r_cat1, r_cat2, r_cat3, r_sk, r_sk1, r_sk2, r_sk3, r_keys, r_keys1, r_items, r_items1, r_dcm, r_dcm1, r_dcm2, r_dcs, r_dcs1, r_dcs2, r_dcs3, r_dcs4, r_whl, r_dctB, v_rd_ro, r_var, r_glob, r_int, r_bl, r_non, r_str, r_tup, r_tup1, r_lst, r_lst0, r_lst1, r_dct, r_dct1, r_dct2, r_fn, r_bin, r_bin1, r_bin2, r_neg, r_neg1, r_not, r_not1, r_and, r_and1, r_or, r_or1, r_ite, r_ite1, r_kbl, r_cmp, r_cmp1, r_cmp2, r_chain, r_chain1, r_chain2, r_chain3, r_chain4, r_call, r_call1, r_prim, r_prim1, r_primB, r_primB1, r_new, r_sub, r_sub1, r_sub2, r_dsub, r_dsub1, r_dsub2, r_app, r_app1, r_app2, r_get, r_get1, r_get2, r_get3, r_frz, r_frz1, r_es0, r_es, r_es1, r_es2, r_ps0, r_ps, r_ps1, r_ps2, r_ps3, r_o0, r_o, r_o1, r_g0, r_g, r_g1, r_cut, r_cut0, r_cut1, r_cut2, r_comp, r_comp1, r_comp2, r_step, r_step1, r_step2, r_step3, r_walkL0, r_walkL, r_walkL1, r_seq, r_seq1, r_seq2, r_rng1, r_rng1a, r_rng2, r_rng2a, r_rng2b, r_in, r_zip, r_zip1, r_zip2, r_c, r_asg, r_asg1, r_nx, r_set, r_set1, r_set2, r_set3, r_st, r_expr, r_expr1, r_ret, r_ret1, r_if, r_if1, r_pass, r_ss0, r_ss, r_ss1, r_ss2, r_for, r_for1, r_fstep, r_for2, r_walkF0, r_walkF, r_walkF1, r_walkF2, v_rd_int, v_rd_bl, v_rd_str, v_rd_non, v_rd_tup, v_rd_lst, v_rd_dct, v_rR_int, v_rR_bl, v_rR_str, v_rR_non, v_rR_tup, v_rR_lst, v_rR_dct, v_rR_ro, v_rR_box, v_and, v_or, a_0, a_1, a_2, a_3, a_4, p_int, p_inti, p_lenl, p_lent, p_max, p_min, p_abs, p_all3, f_sd, f_w, p_isint, p_isinl, p_isini, p_isinb, p_isins, p_isinn, c_isn, c_isb, c_isi, c_iss, c_ist, c_isl, c_inl, c_int, b_add, b_sub, b_mul, b_mul0, b_mul1, b_w2, b_w3, v_rd_w, v_un_w, c_eqi, c_nei, c_eqs, c_lt, c_le, c_gt, c_ge, s_t, s_l, t_nm, t_tp, t_0, t_1, u_int, u_bl, u_str, u_non, u_tup, u_lst, u_0, u_1, u_s, l_5, l_4, l_3, l_2, l_1, l_0, v_ite_bl, v_ite_int, binD, cmpD, primD, subD, dsubD, atD, bindT, bindTs, D.under, D.unders, isTy, inD, isStr, allStr, eqD, scal, D.eqv, D.eqvs, fin_bl, fin_int, fin_tup, fin_lst, fin_nx, LIM, Option.bind_some, Option.map_some]
theorem ev_word_w (fuel k : Nat) (r : Wy) (st : Store) : evCall T fuel (k + 1) 2 [.str r.s, .tup [.str s_moves, .str s_none, .str s_open]] st = some (.bl true, st) := by
  rw [call_eq (fn := f_is_word) rfl rfl]
  cases r <;> simp -implicitDefEqProofs [f_is_word, f_is_word_x0, Wy.s, isStr, allStr, r_din, r_din1, r_din2, r_din3, r_pop, r_pop1, r_gt, r_gt1, r_gt2, r_cat, r_cat1, r_cat2, r_cat3, r_sk, r_sk1, r_sk2, r_sk3, r_keys, r_keys1, r_items, r_items1, r_dcm, r_dcm1, r_dcm2, r_dcs, r_dcs1, r_dcs2, r_dcs3, r_dcs4, r_whl, r_dctB, v_rd_ro, r_var, r_glob, r_int, r_bl, r_non, r_str, r_tup, r_tup1, r_lst, r_lst0, r_lst1, r_dct, r_dct1, r_dct2, r_fn, r_bin, r_bin1, r_bin2, r_neg, r_neg1, r_not, r_not1, r_and, r_and1, r_or, r_or1, r_ite, r_ite1, r_kbl, r_cmp, r_cmp1, r_cmp2, r_chain, r_chain1, r_chain2, r_chain3, r_chain4, r_call, r_call1, r_prim, r_prim1, r_primB, r_primB1, r_new, r_sub, r_sub1, r_sub2, r_dsub, r_dsub1, r_dsub2, r_app, r_app1, r_app2, r_get, r_get1, r_get2, r_get3, r_frz, r_frz1, r_es0, r_es, r_es1, r_es2, r_ps0, r_ps, r_ps1, r_ps2, r_ps3, r_o0, r_o, r_o1, r_g0, r_g, r_g1, r_cut, r_cut0, r_cut1, r_cut2, r_comp, r_comp1, r_comp2, r_step, r_step1, r_step2, r_step3, r_walkL0, r_walkL, r_walkL1, r_seq, r_seq1, r_seq2, r_rng1, r_rng1a, r_rng2, r_rng2a, r_rng2b, r_in, r_zip, r_zip1, r_zip2, r_c, r_asg, r_asg1, r_nx, r_set, r_set1, r_set2, r_set3, r_st, r_expr, r_expr1, r_ret, r_ret1, r_if, r_if1, r_pass, r_ss0, r_ss, r_ss1, r_ss2, r_for, r_for1, r_fstep, r_for2, r_walkF0, r_walkF, r_walkF1, r_walkF2, v_rd_int, v_rd_bl, v_rd_str, v_rd_non, v_rd_tup, v_rd_lst, v_rd_dct, v_rR_int, v_rR_bl, v_rR_str, v_rR_non, v_rR_tup, v_rR_lst, v_rR_dct, v_rR_ro, v_rR_box, v_and, v_or, a_0, a_1, a_2, a_3, a_4, p_int, p_inti, p_lenl, p_lent, p_max, p_min, p_abs, p_all3, f_sd, f_w, p_isint, p_isinl, p_isini, p_isinb, p_isins, p_isinn, c_isn, c_isb, c_isi, c_iss, c_ist, c_isl, c_inl, c_int, b_add, b_sub, b_mul, b_mul0, b_mul1, b_w2, b_w3, v_rd_w, v_un_w, c_eqi, c_nei, c_eqs, c_lt, c_le, c_gt, c_ge, s_t, s_l, t_nm, t_tp, t_0, t_1, u_int, u_bl, u_str, u_non, u_tup, u_lst, u_0, u_1, u_s, l_5, l_4, l_3, l_2, l_1, l_0, v_ite_bl, v_ite_int, binD, cmpD, primD, subD, dsubD, atD, bindT, bindTs, D.under, D.unders, isTy, inD, isStr, allStr, eqD, scal, D.eqv, D.eqvs, fin_bl, fin_int, fin_tup, fin_lst, fin_nx, LIM, Option.bind_some, Option.map_some]
theorem ev_program (fuel k : Nat) (p : Plan) (hp : p.Ok) (st : Store) : evCall T fuel (k + 2) 3 [p.pd] st = some (.bl true, st) := by
  obtain ⟨h1, h2, h3, h4⟩ := hp
  rw [call_eq (fn := f_is_program) rfl rfl]
  simp -implicitDefEqProofs [f_is_program, f_is_program_x0, f_is_program_x1, Plan.pd, ev_row, ev_word_r, ev_word_w, ev_within, h3, h4, r_din, r_din1, r_din2, r_din3, r_pop, r_pop1, r_gt, r_gt1, r_gt2, r_cat, r_cat1, r_cat2, r_cat3, r_sk, r_sk1, r_sk2, r_sk3, r_keys, r_keys1, r_items, r_items1, r_dcm, r_dcm1, r_dcm2, r_dcs, r_dcs1, r_dcs2, r_dcs3, r_dcs4, r_whl, r_dctB, v_rd_ro, r_var, r_glob, r_int, r_bl, r_non, r_str, r_tup, r_tup1, r_lst, r_lst0, r_lst1, r_dct, r_dct1, r_dct2, r_fn, r_bin, r_bin1, r_bin2, r_neg, r_neg1, r_not, r_not1, r_and, r_and1, r_or, r_or1, r_ite, r_ite1, r_kbl, r_cmp, r_cmp1, r_cmp2, r_chain, r_chain1, r_chain2, r_chain3, r_chain4, r_call, r_call1, r_prim, r_prim1, r_primB, r_primB1, r_new, r_sub, r_sub1, r_sub2, r_dsub, r_dsub1, r_dsub2, r_app, r_app1, r_app2, r_get, r_get1, r_get2, r_get3, r_frz, r_frz1, r_es0, r_es, r_es1, r_es2, r_ps0, r_ps, r_ps1, r_ps2, r_ps3, r_o0, r_o, r_o1, r_g0, r_g, r_g1, r_cut, r_cut0, r_cut1, r_cut2, r_comp, r_comp1, r_comp2, r_step, r_step1, r_step2, r_step3, r_walkL0, r_walkL, r_walkL1, r_seq, r_seq1, r_seq2, r_rng1, r_rng1a, r_rng2, r_rng2a, r_rng2b, r_in, r_zip, r_zip1, r_zip2, r_c, r_asg, r_asg1, r_nx, r_set, r_set1, r_set2, r_set3, r_st, r_expr, r_expr1, r_ret, r_ret1, r_if, r_if1, r_pass, r_ss0, r_ss, r_ss1, r_ss2, r_for, r_for1, r_fstep, r_for2, r_walkF0, r_walkF, r_walkF1, r_walkF2, v_rd_int, v_rd_bl, v_rd_str, v_rd_non, v_rd_tup, v_rd_lst, v_rd_dct, v_rR_int, v_rR_bl, v_rR_str, v_rR_non, v_rR_tup, v_rR_lst, v_rR_dct, v_rR_ro, v_rR_box, v_and, v_or, a_0, a_1, a_2, a_3, a_4, p_int, p_inti, p_lenl, p_lent, p_max, p_min, p_abs, p_all3, f_sd, f_w, p_isint, p_isinl, p_isini, p_isinb, p_isins, p_isinn, c_isn, c_isb, c_isi, c_iss, c_ist, c_isl, c_inl, c_int, b_add, b_sub, b_mul, b_mul0, b_mul1, b_w2, b_w3, v_rd_w, v_un_w, c_eqi, c_nei, c_eqs, c_lt, c_le, c_gt, c_ge, s_t, s_l, t_nm, t_tp, t_0, t_1, u_int, u_bl, u_str, u_non, u_tup, u_lst, u_0, u_1, u_s, l_5, l_4, l_3, l_2, l_1, l_0, v_ite_bl, v_ite_int, binD, cmpD, primD, subD, dsubD, atD, bindT, bindTs, D.under, D.unders, isTy, inD, isStr, allStr, eqD, scal, D.eqv, D.eqvs, fin_bl, fin_int, fin_tup, fin_lst, fin_nx, LIM, Option.bind_some, Option.map_some]
theorem ev_plan (fuel k : Nat) (p : Plan) (hp : p.Ok) (st : Store) : evCall T fuel (k + 3) 4 [p.d] st = some (.bl true, st) := by
  have e := ev_program fuel k p hp
  obtain ⟨h1, h2, h3, h4⟩ := hp
  rw [call_eq (fn := f_is_plan) rfl rfl]
  simp -implicitDefEqProofs [f_is_plan, f_is_plan_x0, Plan.d, ev_row, ev_within, e, h1, h2, r_din, r_din1, r_din2, r_din3, r_pop, r_pop1, r_gt, r_gt1, r_gt2, r_cat, r_cat1, r_cat2, r_cat3, r_sk, r_sk1, r_sk2, r_sk3, r_keys, r_keys1, r_items, r_items1, r_dcm, r_dcm1, r_dcm2, r_dcs, r_dcs1, r_dcs2, r_dcs3, r_dcs4, r_whl, r_dctB, v_rd_ro, r_var, r_glob, r_int, r_bl, r_non, r_str, r_tup, r_tup1, r_lst, r_lst0, r_lst1, r_dct, r_dct1, r_dct2, r_fn, r_bin, r_bin1, r_bin2, r_neg, r_neg1, r_not, r_not1, r_and, r_and1, r_or, r_or1, r_ite, r_ite1, r_kbl, r_cmp, r_cmp1, r_cmp2, r_chain, r_chain1, r_chain2, r_chain3, r_chain4, r_call, r_call1, r_prim, r_prim1, r_primB, r_primB1, r_new, r_sub, r_sub1, r_sub2, r_dsub, r_dsub1, r_dsub2, r_app, r_app1, r_app2, r_get, r_get1, r_get2, r_get3, r_frz, r_frz1, r_es0, r_es, r_es1, r_es2, r_ps0, r_ps, r_ps1, r_ps2, r_ps3, r_o0, r_o, r_o1, r_g0, r_g, r_g1, r_cut, r_cut0, r_cut1, r_cut2, r_comp, r_comp1, r_comp2, r_step, r_step1, r_step2, r_step3, r_walkL0, r_walkL, r_walkL1, r_seq, r_seq1, r_seq2, r_rng1, r_rng1a, r_rng2, r_rng2a, r_rng2b, r_in, r_zip, r_zip1, r_zip2, r_c, r_asg, r_asg1, r_nx, r_set, r_set1, r_set2, r_set3, r_st, r_expr, r_expr1, r_ret, r_ret1, r_if, r_if1, r_pass, r_ss0, r_ss, r_ss1, r_ss2, r_for, r_for1, r_fstep, r_for2, r_walkF0, r_walkF, r_walkF1, r_walkF2, v_rd_int, v_rd_bl, v_rd_str, v_rd_non, v_rd_tup, v_rd_lst, v_rd_dct, v_rR_int, v_rR_bl, v_rR_str, v_rR_non, v_rR_tup, v_rR_lst, v_rR_dct, v_rR_ro, v_rR_box, v_and, v_or, a_0, a_1, a_2, a_3, a_4, p_int, p_inti, p_lenl, p_lent, p_max, p_min, p_abs, p_all3, f_sd, f_w, p_isint, p_isinl, p_isini, p_isinb, p_isins, p_isinn, c_isn, c_isb, c_isi, c_iss, c_ist, c_isl, c_inl, c_int, b_add, b_sub, b_mul, b_mul0, b_mul1, b_w2, b_w3, v_rd_w, v_un_w, c_eqi, c_nei, c_eqs, c_lt, c_le, c_gt, c_ge, s_t, s_l, t_nm, t_tp, t_0, t_1, u_int, u_bl, u_str, u_non, u_tup, u_lst, u_0, u_1, u_s, l_5, l_4, l_3, l_2, l_1, l_0, v_ite_bl, v_ite_int, binD, cmpD, primD, subD, dsubD, atD, bindT, bindTs, D.under, D.unders, isTy, inD, isStr, allStr, eqD, scal, D.eqv, D.eqvs, fin_bl, fin_int, fin_tup, fin_lst, fin_nx, LIM, Option.bind_some, Option.map_some]
theorem ev_look_plan (fuel k : Nat) (p : Plan) (hp : p.Ok) (st : Store) : evCall T fuel (k + 4) 5 [p.d] st = some (.non, st) := by
  have e := ev_plan fuel k p hp
  rw [call_eq (fn := f_look_at_plan) rfl rfl]
  simp -implicitDefEqProofs [f_look_at_plan, f_look_at_plan_x0, e, fin_nx, r_din, r_din1, r_din2, r_din3, r_pop, r_pop1, r_gt, r_gt1, r_gt2, r_cat, r_cat1, r_cat2, r_cat3, r_sk, r_sk1, r_sk2, r_sk3, r_keys, r_keys1, r_items, r_items1, r_dcm, r_dcm1, r_dcm2, r_dcs, r_dcs1, r_dcs2, r_dcs3, r_dcs4, r_whl, r_dctB, v_rd_ro, r_var, r_glob, r_int, r_bl, r_non, r_str, r_tup, r_tup1, r_lst, r_lst0, r_lst1, r_dct, r_dct1, r_dct2, r_fn, r_bin, r_bin1, r_bin2, r_neg, r_neg1, r_not, r_not1, r_and, r_and1, r_or, r_or1, r_ite, r_ite1, r_kbl, r_cmp, r_cmp1, r_cmp2, r_chain, r_chain1, r_chain2, r_chain3, r_chain4, r_call, r_call1, r_prim, r_prim1, r_primB, r_primB1, r_new, r_sub, r_sub1, r_sub2, r_dsub, r_dsub1, r_dsub2, r_app, r_app1, r_app2, r_get, r_get1, r_get2, r_get3, r_frz, r_frz1, r_es0, r_es, r_es1, r_es2, r_ps0, r_ps, r_ps1, r_ps2, r_ps3, r_o0, r_o, r_o1, r_g0, r_g, r_g1, r_cut, r_cut0, r_cut1, r_cut2, r_comp, r_comp1, r_comp2, r_step, r_step1, r_step2, r_step3, r_walkL0, r_walkL, r_walkL1, r_seq, r_seq1, r_seq2, r_rng1, r_rng1a, r_rng2, r_rng2a, r_rng2b, r_in, r_zip, r_zip1, r_zip2, r_c, r_asg, r_asg1, r_nx, r_set, r_set1, r_set2, r_set3, r_st, r_expr, r_expr1, r_ret, r_ret1, r_if, r_if1, r_pass, r_ss0, r_ss, r_ss1, r_ss2, r_for, r_for1, r_fstep, r_for2, r_walkF0, r_walkF, r_walkF1, r_walkF2, v_rd_int, v_rd_bl, v_rd_str, v_rd_non, v_rd_tup, v_rd_lst, v_rd_dct, v_rR_int, v_rR_bl, v_rR_str, v_rR_non, v_rR_tup, v_rR_lst, v_rR_dct, v_rR_ro, v_rR_box, v_and, v_or, a_0, a_1, a_2, a_3, a_4, p_int, p_inti, p_lenl, p_lent, p_max, p_min, p_abs, p_all3, f_sd, f_w, p_isint, p_isinl, p_isini, p_isinb, p_isins, p_isinn, c_isn, c_isb, c_isi, c_iss, c_ist, c_isl, c_inl, c_int, b_add, b_sub, b_mul, b_mul0, b_mul1, b_w2, b_w3, v_rd_w, v_un_w, c_eqi, c_nei, c_eqs, c_lt, c_le, c_gt, c_ge, s_t, s_l, t_nm, t_tp, t_0, t_1, u_int, u_bl, u_str, u_non, u_tup, u_lst, u_0, u_1, u_s, l_5, l_4, l_3, l_2, l_1, l_0, v_ite_bl, v_ite_int, binD, cmpD, primD, subD, dsubD, atD, bindT, bindTs, D.under, D.unders, isTy, inD, isStr, allStr, eqD, scal, D.eqv, D.eqvs, fin_bl, fin_int, fin_tup, fin_lst, fin_nx, LIM, Option.bind_some, Option.map_some]
theorem ev_stopped (fuel k : Nat) (p : Plan) (m : Int) (st : Store) : evCall T fuel (k + 1) 6 [p.d, .int m] st = some (.int (stop p.r m), st) := by
  rw [call_eq (fn := f_stopped) rfl rfl]
  obtain ⟨lift, r, eye, clock, w, mem⟩ := p
  cases r <;> simp -implicitDefEqProofs [f_stopped, f_stopped_x0, Plan.d, Plan.pd, Rs.s, stop, r_din, r_din1, r_din2, r_din3, r_pop, r_pop1, r_gt, r_gt1, r_gt2, r_cat, r_cat1, r_cat2, r_cat3, r_sk, r_sk1, r_sk2, r_sk3, r_keys, r_keys1, r_items, r_items1, r_dcm, r_dcm1, r_dcm2, r_dcs, r_dcs1, r_dcs2, r_dcs3, r_dcs4, r_whl, r_dctB, v_rd_ro, r_var, r_glob, r_int, r_bl, r_non, r_str, r_tup, r_tup1, r_lst, r_lst0, r_lst1, r_dct, r_dct1, r_dct2, r_fn, r_bin, r_bin1, r_bin2, r_neg, r_neg1, r_not, r_not1, r_and, r_and1, r_or, r_or1, r_ite, r_ite1, r_kbl, r_cmp, r_cmp1, r_cmp2, r_chain, r_chain1, r_chain2, r_chain3, r_chain4, r_call, r_call1, r_prim, r_prim1, r_primB, r_primB1, r_new, r_sub, r_sub1, r_sub2, r_dsub, r_dsub1, r_dsub2, r_app, r_app1, r_app2, r_get, r_get1, r_get2, r_get3, r_frz, r_frz1, r_es0, r_es, r_es1, r_es2, r_ps0, r_ps, r_ps1, r_ps2, r_ps3, r_o0, r_o, r_o1, r_g0, r_g, r_g1, r_cut, r_cut0, r_cut1, r_cut2, r_comp, r_comp1, r_comp2, r_step, r_step1, r_step2, r_step3, r_walkL0, r_walkL, r_walkL1, r_seq, r_seq1, r_seq2, r_rng1, r_rng1a, r_rng2, r_rng2a, r_rng2b, r_in, r_zip, r_zip1, r_zip2, r_c, r_asg, r_asg1, r_nx, r_set, r_set1, r_set2, r_set3, r_st, r_expr, r_expr1, r_ret, r_ret1, r_if, r_if1, r_pass, r_ss0, r_ss, r_ss1, r_ss2, r_for, r_for1, r_fstep, r_for2, r_walkF0, r_walkF, r_walkF1, r_walkF2, v_rd_int, v_rd_bl, v_rd_str, v_rd_non, v_rd_tup, v_rd_lst, v_rd_dct, v_rR_int, v_rR_bl, v_rR_str, v_rR_non, v_rR_tup, v_rR_lst, v_rR_dct, v_rR_ro, v_rR_box, v_and, v_or, a_0, a_1, a_2, a_3, a_4, p_int, p_inti, p_lenl, p_lent, p_max, p_min, p_abs, p_all3, f_sd, f_w, p_isint, p_isinl, p_isini, p_isinb, p_isins, p_isinn, c_isn, c_isb, c_isi, c_iss, c_ist, c_isl, c_inl, c_int, b_add, b_sub, b_mul, b_mul0, b_mul1, b_w2, b_w3, v_rd_w, v_un_w, c_eqi, c_nei, c_eqs, c_lt, c_le, c_gt, c_ge, s_t, s_l, t_nm, t_tp, t_0, t_1, u_int, u_bl, u_str, u_non, u_tup, u_lst, u_0, u_1, u_s, l_5, l_4, l_3, l_2, l_1, l_0, v_ite_bl, v_ite_int, binD, cmpD, primD, subD, dsubD, atD, bindT, bindTs, D.under, D.unders, isTy, inD, isStr, allStr, eqD, scal, D.eqv, D.eqvs, fin_bl, fin_int, fin_tup, fin_lst, fin_nx, LIM, Option.bind_some, Option.map_some, dmake, keyFits, keyOk, isStr, dput, dget, kfind, new, q_other_same, q_other_up, q_same_other, q_same_up, q_up_other, q_up_same, q_moves_none, q_moves_open, q_none_moves, q_none_open, q_open_moves, q_open_none, k_other, k_same, k_up, k_moves, k_none, k_open, k_dead, k_hits, k_turned]
theorem ev_cut_off (fuel k : Nat) (p : Plan) (s : Stand) (st : Store) : evCall T fuel (k + 2) 7 [p.d, s.d] st = some ((cutOff p s).d, st) := by
  have e := fun m => ev_stopped fuel k p m st
  rw [call_eq (fn := f_cut_off) rfl rfl]
  obtain ⟨lift, r, eye, clock, w, mem⟩ := p
  obtain ⟨h, m, l, t⟩ := s
  simp -implicitDefEqProofs only [Plan.d, Plan.pd] at e
  by_cases hm : m = 0 <;> cases mem <;> simp -implicitDefEqProofs [f_cut_off, f_cut_off_x0, f_cut_off_x1, f_cut_off_x2, Plan.d, Plan.pd, Stand.d, cutOff, e, hm, r_din, r_din1, r_din2, r_din3, r_pop, r_pop1, r_gt, r_gt1, r_gt2, r_cat, r_cat1, r_cat2, r_cat3, r_sk, r_sk1, r_sk2, r_sk3, r_keys, r_keys1, r_items, r_items1, r_dcm, r_dcm1, r_dcm2, r_dcs, r_dcs1, r_dcs2, r_dcs3, r_dcs4, r_whl, r_dctB, v_rd_ro, r_var, r_glob, r_int, r_bl, r_non, r_str, r_tup, r_tup1, r_lst, r_lst0, r_lst1, r_dct, r_dct1, r_dct2, r_fn, r_bin, r_bin1, r_bin2, r_neg, r_neg1, r_not, r_not1, r_and, r_and1, r_or, r_or1, r_ite, r_ite1, r_kbl, r_cmp, r_cmp1, r_cmp2, r_chain, r_chain1, r_chain2, r_chain3, r_chain4, r_call, r_call1, r_prim, r_prim1, r_primB, r_primB1, r_new, r_sub, r_sub1, r_sub2, r_dsub, r_dsub1, r_dsub2, r_app, r_app1, r_app2, r_get, r_get1, r_get2, r_get3, r_frz, r_frz1, r_es0, r_es, r_es1, r_es2, r_ps0, r_ps, r_ps1, r_ps2, r_ps3, r_o0, r_o, r_o1, r_g0, r_g, r_g1, r_cut, r_cut0, r_cut1, r_cut2, r_comp, r_comp1, r_comp2, r_step, r_step1, r_step2, r_step3, r_walkL0, r_walkL, r_walkL1, r_seq, r_seq1, r_seq2, r_rng1, r_rng1a, r_rng2, r_rng2a, r_rng2b, r_in, r_zip, r_zip1, r_zip2, r_c, r_asg, r_asg1, r_nx, r_set, r_set1, r_set2, r_set3, r_st, r_expr, r_expr1, r_ret, r_ret1, r_if, r_if1, r_pass, r_ss0, r_ss, r_ss1, r_ss2, r_for, r_for1, r_fstep, r_for2, r_walkF0, r_walkF, r_walkF1, r_walkF2, v_rd_int, v_rd_bl, v_rd_str, v_rd_non, v_rd_tup, v_rd_lst, v_rd_dct, v_rR_int, v_rR_bl, v_rR_str, v_rR_non, v_rR_tup, v_rR_lst, v_rR_dct, v_rR_ro, v_rR_box, v_and, v_or, a_0, a_1, a_2, a_3, a_4, p_int, p_inti, p_lenl, p_lent, p_max, p_min, p_abs, p_all3, f_sd, f_w, p_isint, p_isinl, p_isini, p_isinb, p_isins, p_isinn, c_isn, c_isb, c_isi, c_iss, c_ist, c_isl, c_inl, c_int, b_add, b_sub, b_mul, b_mul0, b_mul1, b_w2, b_w3, v_rd_w, v_un_w, c_eqi, c_nei, c_eqs, c_lt, c_le, c_gt, c_ge, s_t, s_l, t_nm, t_tp, t_0, t_1, u_int, u_bl, u_str, u_non, u_tup, u_lst, u_0, u_1, u_s, l_5, l_4, l_3, l_2, l_1, l_0, v_ite_bl, v_ite_int, binD, cmpD, primD, subD, dsubD, atD, bindT, bindTs, D.under, D.unders, isTy, inD, isStr, allStr, eqD, scal, D.eqv, D.eqvs, fin_bl, fin_int, fin_tup, fin_lst, fin_nx, LIM, Option.bind_some, Option.map_some]
theorem ev_ordered (fuel k : Nat) (p : Plan) (s : Stand) (b : Bool) (st : Store) : evCall T fuel (k + 2) 8 [p.d, s.d, .bl b] st = some (.tup [.int (ordered p s b).1, .int (ordered p s b).2.1, .int (ordered p s b).2.2], st) := by
  have e := fun m => ev_stopped fuel k p m st
  rw [call_eq (fn := f_ordered) rfl rfl]
  obtain ⟨lift, r, eye, clock, w, mem⟩ := p
  obtain ⟨h, m, l, t⟩ := s
  simp -implicitDefEqProofs only [Plan.d, Plan.pd] at e
  by_cases hm : m = 0
  · subst hm
    cases b
    · by_cases h1 : h = lift
      · subst h1
        by_cases h2 : 0 < clock
        · by_cases h3 : t + 1 = clock <;> simp -implicitDefEqProofs [f_ordered, f_ordered_x0, f_ordered_x1, f_ordered_x2, f_ordered_x3, f_ordered_x4, Plan.d, Plan.pd, Stand.d, ordered, e, h2, h3, r_din, r_din1, r_din2, r_din3, r_pop, r_pop1, r_gt, r_gt1, r_gt2, r_cat, r_cat1, r_cat2, r_cat3, r_sk, r_sk1, r_sk2, r_sk3, r_keys, r_keys1, r_items, r_items1, r_dcm, r_dcm1, r_dcm2, r_dcs, r_dcs1, r_dcs2, r_dcs3, r_dcs4, r_whl, r_dctB, v_rd_ro, r_var, r_glob, r_int, r_bl, r_non, r_str, r_tup, r_tup1, r_lst, r_lst0, r_lst1, r_dct, r_dct1, r_dct2, r_fn, r_bin, r_bin1, r_bin2, r_neg, r_neg1, r_not, r_not1, r_and, r_and1, r_or, r_or1, r_ite, r_ite1, r_kbl, r_cmp, r_cmp1, r_cmp2, r_chain, r_chain1, r_chain2, r_chain3, r_chain4, r_call, r_call1, r_prim, r_prim1, r_primB, r_primB1, r_new, r_sub, r_sub1, r_sub2, r_dsub, r_dsub1, r_dsub2, r_app, r_app1, r_app2, r_get, r_get1, r_get2, r_get3, r_frz, r_frz1, r_es0, r_es, r_es1, r_es2, r_ps0, r_ps, r_ps1, r_ps2, r_ps3, r_o0, r_o, r_o1, r_g0, r_g, r_g1, r_cut, r_cut0, r_cut1, r_cut2, r_comp, r_comp1, r_comp2, r_step, r_step1, r_step2, r_step3, r_walkL0, r_walkL, r_walkL1, r_seq, r_seq1, r_seq2, r_rng1, r_rng1a, r_rng2, r_rng2a, r_rng2b, r_in, r_zip, r_zip1, r_zip2, r_c, r_asg, r_asg1, r_nx, r_set, r_set1, r_set2, r_set3, r_st, r_expr, r_expr1, r_ret, r_ret1, r_if, r_if1, r_pass, r_ss0, r_ss, r_ss1, r_ss2, r_for, r_for1, r_fstep, r_for2, r_walkF0, r_walkF, r_walkF1, r_walkF2, v_rd_int, v_rd_bl, v_rd_str, v_rd_non, v_rd_tup, v_rd_lst, v_rd_dct, v_rR_int, v_rR_bl, v_rR_str, v_rR_non, v_rR_tup, v_rR_lst, v_rR_dct, v_rR_ro, v_rR_box, v_and, v_or, a_0, a_1, a_2, a_3, a_4, p_int, p_inti, p_lenl, p_lent, p_max, p_min, p_abs, p_all3, f_sd, f_w, p_isint, p_isinl, p_isini, p_isinb, p_isins, p_isinn, c_isn, c_isb, c_isi, c_iss, c_ist, c_isl, c_inl, c_int, b_add, b_sub, b_mul, b_mul0, b_mul1, b_w2, b_w3, v_rd_w, v_un_w, c_eqi, c_nei, c_eqs, c_lt, c_le, c_gt, c_ge, s_t, s_l, t_nm, t_tp, t_0, t_1, u_int, u_bl, u_str, u_non, u_tup, u_lst, u_0, u_1, u_s, l_5, l_4, l_3, l_2, l_1, l_0, v_ite_bl, v_ite_int, binD, cmpD, primD, subD, dsubD, atD, bindT, bindTs, D.under, D.unders, isTy, inD, isStr, allStr, eqD, scal, D.eqv, D.eqvs, fin_bl, fin_int, fin_tup, fin_lst, fin_nx, LIM, Option.bind_some, Option.map_some]
        · simp -implicitDefEqProofs [f_ordered, f_ordered_x0, f_ordered_x1, f_ordered_x2, f_ordered_x3, f_ordered_x4, Plan.d, Plan.pd, Stand.d, ordered, e, h2, r_din, r_din1, r_din2, r_din3, r_pop, r_pop1, r_gt, r_gt1, r_gt2, r_cat, r_cat1, r_cat2, r_cat3, r_sk, r_sk1, r_sk2, r_sk3, r_keys, r_keys1, r_items, r_items1, r_dcm, r_dcm1, r_dcm2, r_dcs, r_dcs1, r_dcs2, r_dcs3, r_dcs4, r_whl, r_dctB, v_rd_ro, r_var, r_glob, r_int, r_bl, r_non, r_str, r_tup, r_tup1, r_lst, r_lst0, r_lst1, r_dct, r_dct1, r_dct2, r_fn, r_bin, r_bin1, r_bin2, r_neg, r_neg1, r_not, r_not1, r_and, r_and1, r_or, r_or1, r_ite, r_ite1, r_kbl, r_cmp, r_cmp1, r_cmp2, r_chain, r_chain1, r_chain2, r_chain3, r_chain4, r_call, r_call1, r_prim, r_prim1, r_primB, r_primB1, r_new, r_sub, r_sub1, r_sub2, r_dsub, r_dsub1, r_dsub2, r_app, r_app1, r_app2, r_get, r_get1, r_get2, r_get3, r_frz, r_frz1, r_es0, r_es, r_es1, r_es2, r_ps0, r_ps, r_ps1, r_ps2, r_ps3, r_o0, r_o, r_o1, r_g0, r_g, r_g1, r_cut, r_cut0, r_cut1, r_cut2, r_comp, r_comp1, r_comp2, r_step, r_step1, r_step2, r_step3, r_walkL0, r_walkL, r_walkL1, r_seq, r_seq1, r_seq2, r_rng1, r_rng1a, r_rng2, r_rng2a, r_rng2b, r_in, r_zip, r_zip1, r_zip2, r_c, r_asg, r_asg1, r_nx, r_set, r_set1, r_set2, r_set3, r_st, r_expr, r_expr1, r_ret, r_ret1, r_if, r_if1, r_pass, r_ss0, r_ss, r_ss1, r_ss2, r_for, r_for1, r_fstep, r_for2, r_walkF0, r_walkF, r_walkF1, r_walkF2, v_rd_int, v_rd_bl, v_rd_str, v_rd_non, v_rd_tup, v_rd_lst, v_rd_dct, v_rR_int, v_rR_bl, v_rR_str, v_rR_non, v_rR_tup, v_rR_lst, v_rR_dct, v_rR_ro, v_rR_box, v_and, v_or, a_0, a_1, a_2, a_3, a_4, p_int, p_inti, p_lenl, p_lent, p_max, p_min, p_abs, p_all3, f_sd, f_w, p_isint, p_isinl, p_isini, p_isinb, p_isins, p_isinn, c_isn, c_isb, c_isi, c_iss, c_ist, c_isl, c_inl, c_int, b_add, b_sub, b_mul, b_mul0, b_mul1, b_w2, b_w3, v_rd_w, v_un_w, c_eqi, c_nei, c_eqs, c_lt, c_le, c_gt, c_ge, s_t, s_l, t_nm, t_tp, t_0, t_1, u_int, u_bl, u_str, u_non, u_tup, u_lst, u_0, u_1, u_s, l_5, l_4, l_3, l_2, l_1, l_0, v_ite_bl, v_ite_int, binD, cmpD, primD, subD, dsubD, atD, bindT, bindTs, D.under, D.unders, isTy, inD, isStr, allStr, eqD, scal, D.eqv, D.eqvs, fin_bl, fin_int, fin_tup, fin_lst, fin_nx, LIM, Option.bind_some, Option.map_some]
      · simp -implicitDefEqProofs [f_ordered, f_ordered_x0, f_ordered_x1, f_ordered_x2, f_ordered_x3, f_ordered_x4, Plan.d, Plan.pd, Stand.d, ordered, e, h1, r_din, r_din1, r_din2, r_din3, r_pop, r_pop1, r_gt, r_gt1, r_gt2, r_cat, r_cat1, r_cat2, r_cat3, r_sk, r_sk1, r_sk2, r_sk3, r_keys, r_keys1, r_items, r_items1, r_dcm, r_dcm1, r_dcm2, r_dcs, r_dcs1, r_dcs2, r_dcs3, r_dcs4, r_whl, r_dctB, v_rd_ro, r_var, r_glob, r_int, r_bl, r_non, r_str, r_tup, r_tup1, r_lst, r_lst0, r_lst1, r_dct, r_dct1, r_dct2, r_fn, r_bin, r_bin1, r_bin2, r_neg, r_neg1, r_not, r_not1, r_and, r_and1, r_or, r_or1, r_ite, r_ite1, r_kbl, r_cmp, r_cmp1, r_cmp2, r_chain, r_chain1, r_chain2, r_chain3, r_chain4, r_call, r_call1, r_prim, r_prim1, r_primB, r_primB1, r_new, r_sub, r_sub1, r_sub2, r_dsub, r_dsub1, r_dsub2, r_app, r_app1, r_app2, r_get, r_get1, r_get2, r_get3, r_frz, r_frz1, r_es0, r_es, r_es1, r_es2, r_ps0, r_ps, r_ps1, r_ps2, r_ps3, r_o0, r_o, r_o1, r_g0, r_g, r_g1, r_cut, r_cut0, r_cut1, r_cut2, r_comp, r_comp1, r_comp2, r_step, r_step1, r_step2, r_step3, r_walkL0, r_walkL, r_walkL1, r_seq, r_seq1, r_seq2, r_rng1, r_rng1a, r_rng2, r_rng2a, r_rng2b, r_in, r_zip, r_zip1, r_zip2, r_c, r_asg, r_asg1, r_nx, r_set, r_set1, r_set2, r_set3, r_st, r_expr, r_expr1, r_ret, r_ret1, r_if, r_if1, r_pass, r_ss0, r_ss, r_ss1, r_ss2, r_for, r_for1, r_fstep, r_for2, r_walkF0, r_walkF, r_walkF1, r_walkF2, v_rd_int, v_rd_bl, v_rd_str, v_rd_non, v_rd_tup, v_rd_lst, v_rd_dct, v_rR_int, v_rR_bl, v_rR_str, v_rR_non, v_rR_tup, v_rR_lst, v_rR_dct, v_rR_ro, v_rR_box, v_and, v_or, a_0, a_1, a_2, a_3, a_4, p_int, p_inti, p_lenl, p_lent, p_max, p_min, p_abs, p_all3, f_sd, f_w, p_isint, p_isinl, p_isini, p_isinb, p_isins, p_isinn, c_isn, c_isb, c_isi, c_iss, c_ist, c_isl, c_inl, c_int, b_add, b_sub, b_mul, b_mul0, b_mul1, b_w2, b_w3, v_rd_w, v_un_w, c_eqi, c_nei, c_eqs, c_lt, c_le, c_gt, c_ge, s_t, s_l, t_nm, t_tp, t_0, t_1, u_int, u_bl, u_str, u_non, u_tup, u_lst, u_0, u_1, u_s, l_5, l_4, l_3, l_2, l_1, l_0, v_ite_bl, v_ite_int, binD, cmpD, primD, subD, dsubD, atD, bindT, bindTs, D.under, D.unders, isTy, inD, isStr, allStr, eqD, scal, D.eqv, D.eqvs, fin_bl, fin_int, fin_tup, fin_lst, fin_nx, LIM, Option.bind_some, Option.map_some]
    · simp -implicitDefEqProofs [f_ordered, f_ordered_x0, f_ordered_x1, f_ordered_x2, f_ordered_x3, f_ordered_x4, Plan.d, Plan.pd, Stand.d, ordered, e, r_din, r_din1, r_din2, r_din3, r_pop, r_pop1, r_gt, r_gt1, r_gt2, r_cat, r_cat1, r_cat2, r_cat3, r_sk, r_sk1, r_sk2, r_sk3, r_keys, r_keys1, r_items, r_items1, r_dcm, r_dcm1, r_dcm2, r_dcs, r_dcs1, r_dcs2, r_dcs3, r_dcs4, r_whl, r_dctB, v_rd_ro, r_var, r_glob, r_int, r_bl, r_non, r_str, r_tup, r_tup1, r_lst, r_lst0, r_lst1, r_dct, r_dct1, r_dct2, r_fn, r_bin, r_bin1, r_bin2, r_neg, r_neg1, r_not, r_not1, r_and, r_and1, r_or, r_or1, r_ite, r_ite1, r_kbl, r_cmp, r_cmp1, r_cmp2, r_chain, r_chain1, r_chain2, r_chain3, r_chain4, r_call, r_call1, r_prim, r_prim1, r_primB, r_primB1, r_new, r_sub, r_sub1, r_sub2, r_dsub, r_dsub1, r_dsub2, r_app, r_app1, r_app2, r_get, r_get1, r_get2, r_get3, r_frz, r_frz1, r_es0, r_es, r_es1, r_es2, r_ps0, r_ps, r_ps1, r_ps2, r_ps3, r_o0, r_o, r_o1, r_g0, r_g, r_g1, r_cut, r_cut0, r_cut1, r_cut2, r_comp, r_comp1, r_comp2, r_step, r_step1, r_step2, r_step3, r_walkL0, r_walkL, r_walkL1, r_seq, r_seq1, r_seq2, r_rng1, r_rng1a, r_rng2, r_rng2a, r_rng2b, r_in, r_zip, r_zip1, r_zip2, r_c, r_asg, r_asg1, r_nx, r_set, r_set1, r_set2, r_set3, r_st, r_expr, r_expr1, r_ret, r_ret1, r_if, r_if1, r_pass, r_ss0, r_ss, r_ss1, r_ss2, r_for, r_for1, r_fstep, r_for2, r_walkF0, r_walkF, r_walkF1, r_walkF2, v_rd_int, v_rd_bl, v_rd_str, v_rd_non, v_rd_tup, v_rd_lst, v_rd_dct, v_rR_int, v_rR_bl, v_rR_str, v_rR_non, v_rR_tup, v_rR_lst, v_rR_dct, v_rR_ro, v_rR_box, v_and, v_or, a_0, a_1, a_2, a_3, a_4, p_int, p_inti, p_lenl, p_lent, p_max, p_min, p_abs, p_all3, f_sd, f_w, p_isint, p_isinl, p_isini, p_isinb, p_isins, p_isinn, c_isn, c_isb, c_isi, c_iss, c_ist, c_isl, c_inl, c_int, b_add, b_sub, b_mul, b_mul0, b_mul1, b_w2, b_w3, v_rd_w, v_un_w, c_eqi, c_nei, c_eqs, c_lt, c_le, c_gt, c_ge, s_t, s_l, t_nm, t_tp, t_0, t_1, u_int, u_bl, u_str, u_non, u_tup, u_lst, u_0, u_1, u_s, l_5, l_4, l_3, l_2, l_1, l_0, v_ite_bl, v_ite_int, binD, cmpD, primD, subD, dsubD, atD, bindT, bindTs, D.under, D.unders, isTy, inD, isStr, allStr, eqD, scal, D.eqv, D.eqvs, fin_bl, fin_int, fin_tup, fin_lst, fin_nx, LIM, Option.bind_some, Option.map_some]
  · cases b <;> simp -implicitDefEqProofs [f_ordered, f_ordered_x0, f_ordered_x1, f_ordered_x2, f_ordered_x3, f_ordered_x4, Plan.d, Plan.pd, Stand.d, ordered, e, hm, r_din, r_din1, r_din2, r_din3, r_pop, r_pop1, r_gt, r_gt1, r_gt2, r_cat, r_cat1, r_cat2, r_cat3, r_sk, r_sk1, r_sk2, r_sk3, r_keys, r_keys1, r_items, r_items1, r_dcm, r_dcm1, r_dcm2, r_dcs, r_dcs1, r_dcs2, r_dcs3, r_dcs4, r_whl, r_dctB, v_rd_ro, r_var, r_glob, r_int, r_bl, r_non, r_str, r_tup, r_tup1, r_lst, r_lst0, r_lst1, r_dct, r_dct1, r_dct2, r_fn, r_bin, r_bin1, r_bin2, r_neg, r_neg1, r_not, r_not1, r_and, r_and1, r_or, r_or1, r_ite, r_ite1, r_kbl, r_cmp, r_cmp1, r_cmp2, r_chain, r_chain1, r_chain2, r_chain3, r_chain4, r_call, r_call1, r_prim, r_prim1, r_primB, r_primB1, r_new, r_sub, r_sub1, r_sub2, r_dsub, r_dsub1, r_dsub2, r_app, r_app1, r_app2, r_get, r_get1, r_get2, r_get3, r_frz, r_frz1, r_es0, r_es, r_es1, r_es2, r_ps0, r_ps, r_ps1, r_ps2, r_ps3, r_o0, r_o, r_o1, r_g0, r_g, r_g1, r_cut, r_cut0, r_cut1, r_cut2, r_comp, r_comp1, r_comp2, r_step, r_step1, r_step2, r_step3, r_walkL0, r_walkL, r_walkL1, r_seq, r_seq1, r_seq2, r_rng1, r_rng1a, r_rng2, r_rng2a, r_rng2b, r_in, r_zip, r_zip1, r_zip2, r_c, r_asg, r_asg1, r_nx, r_set, r_set1, r_set2, r_set3, r_st, r_expr, r_expr1, r_ret, r_ret1, r_if, r_if1, r_pass, r_ss0, r_ss, r_ss1, r_ss2, r_for, r_for1, r_fstep, r_for2, r_walkF0, r_walkF, r_walkF1, r_walkF2, v_rd_int, v_rd_bl, v_rd_str, v_rd_non, v_rd_tup, v_rd_lst, v_rd_dct, v_rR_int, v_rR_bl, v_rR_str, v_rR_non, v_rR_tup, v_rR_lst, v_rR_dct, v_rR_ro, v_rR_box, v_and, v_or, a_0, a_1, a_2, a_3, a_4, p_int, p_inti, p_lenl, p_lent, p_max, p_min, p_abs, p_all3, f_sd, f_w, p_isint, p_isinl, p_isini, p_isinb, p_isins, p_isinn, c_isn, c_isb, c_isi, c_iss, c_ist, c_isl, c_inl, c_int, b_add, b_sub, b_mul, b_mul0, b_mul1, b_w2, b_w3, v_rd_w, v_un_w, c_eqi, c_nei, c_eqs, c_lt, c_le, c_gt, c_ge, s_t, s_l, t_nm, t_tp, t_0, t_1, u_int, u_bl, u_str, u_non, u_tup, u_lst, u_0, u_1, u_s, l_5, l_4, l_3, l_2, l_1, l_0, v_ite_bl, v_ite_int, binD, cmpD, primD, subD, dsubD, atD, bindT, bindTs, D.under, D.unders, isTy, inD, isStr, allStr, eqD, scal, D.eqv, D.eqvs, fin_bl, fin_int, fin_tup, fin_lst, fin_nx, LIM, Option.bind_some, Option.map_some]
theorem ev_passed (fuel k : Nat) (p : Plan) (s : Stand) (c : Choice) (st : Store) : evCall T fuel (k + 3) 9 [p.d, s.d, c.d] st = some (.tup [(passed p s c).1.d, words (passed p s c).2], st) := by
  have e1 := ev_cut_off fuel k p s st
  have e2 := fun b => ev_ordered fuel k p s b st
  rw [call_eq (fn := f_passed) rfl rfl]
  obtain ⟨press, stands, cut⟩ := c
  cases cut
  · simp -implicitDefEqProofs only [Choice.d, passed, Bool.false_eq_true, if_false]
    have e3 := e2 press
    generalize ordered p s press = o at e3 ⊢
    obtain ⟨m, l, t⟩ := o
    obtain ⟨lift, r, eye, clock, w, mem⟩ := p
    obtain ⟨h, m0, l0, t0⟩ := s
    simp -implicitDefEqProofs only [Plan.d, Plan.pd, Stand.d] at e3
    generalize hb : (decide (m < 0) && (stands && eye)) = tb
    simp -implicitDefEqProofs only [f_passed, f_passed_x0, f_passed_x1, f_passed_x2, f_passed_x3, f_passed_x4, f_passed_x5, f_passed_x6, f_passed_x7, f_passed_x8, f_passed_x9, f_passed_x10, f_passed_x11, Plan.d, Plan.pd, Stand.d, e3, hb, r_din, r_din1, r_din2, r_din3, r_pop, r_pop1, r_gt, r_gt1, r_gt2, r_cat, r_cat1, r_cat2, r_cat3, r_sk, r_sk1, r_sk2, r_sk3, r_keys, r_keys1, r_items, r_items1, r_dcm, r_dcm1, r_dcm2, r_dcs, r_dcs1, r_dcs2, r_dcs3, r_dcs4, r_whl, r_dctB, v_rd_ro, r_var, r_glob, r_int, r_bl, r_non, r_str, r_tup, r_tup1, r_lst, r_lst0, r_lst1, r_dct, r_dct1, r_dct2, r_fn, r_bin, r_bin1, r_bin2, r_neg, r_neg1, r_not, r_not1, r_and, r_and1, r_or, r_or1, r_ite, r_ite1, r_kbl, r_cmp, r_cmp1, r_cmp2, r_chain, r_chain1, r_chain2, r_chain3, r_chain4, r_call, r_call1, r_prim, r_prim1, r_primB, r_primB1, r_new, r_sub, r_sub1, r_sub2, r_dsub, r_dsub1, r_dsub2, r_app, r_app1, r_app2, r_get, r_get1, r_get2, r_get3, r_frz, r_frz1, r_es0, r_es, r_es1, r_es2, r_ps0, r_ps, r_ps1, r_ps2, r_ps3, r_o0, r_o, r_o1, r_g0, r_g, r_g1, r_cut, r_cut0, r_cut1, r_cut2, r_comp, r_comp1, r_comp2, r_step, r_step1, r_step2, r_step3, r_walkL0, r_walkL, r_walkL1, r_seq, r_seq1, r_seq2, r_rng1, r_rng1a, r_rng2, r_rng2a, r_rng2b, r_in, r_zip, r_zip1, r_zip2, r_c, r_asg, r_asg1, r_nx, r_set, r_set1, r_set2, r_set3, r_st, r_expr, r_expr1, r_ret, r_ret1, r_if, r_if1, r_pass, r_ss0, r_ss, r_ss1, r_ss2, r_for, r_for1, r_fstep, r_for2, r_walkF0, r_walkF, r_walkF1, r_walkF2, v_rd_int, v_rd_bl, v_rd_str, v_rd_non, v_rd_tup, v_rd_lst, v_rd_dct, v_rR_int, v_rR_bl, v_rR_str, v_rR_non, v_rR_tup, v_rR_lst, v_rR_dct, v_rR_ro, v_rR_box, v_and, v_or, a_0, a_1, a_2, a_3, a_4, p_int, p_inti, p_lenl, p_lent, p_max, p_min, p_abs, p_all3, f_sd, f_w, p_isint, p_isinl, p_isini, p_isinb, p_isins, p_isinn, c_isn, c_isb, c_isi, c_iss, c_ist, c_isl, c_inl, c_int, b_add, b_sub, b_mul, b_mul0, b_mul1, b_w2, b_w3, v_rd_w, v_un_w, c_eqi, c_nei, c_eqs, c_lt, c_le, c_gt, c_ge, s_t, s_l, t_nm, t_tp, t_0, t_1, u_int, u_bl, u_str, u_non, u_tup, u_lst, u_0, u_1, u_s, l_5, l_4, l_3, l_2, l_1, l_0, n_0, n_1, n_2, n_3, n_4, n_5, n_6, n_7, n_8, n_9, n_10, n_11, n_12, m_0, m_1, m_2, m_3, m_4, m_5, m_6, m_7, m_8, m_9, m_10, m_11, m_12, m_13, m_14, m_15, m_16, i_23, eq_nn, eq_bb, eq_ll, beq_self_eq_true, isTy, fin_bl, fin_int, fin_tup, fin_lst, fin_nx, Option.bind_some, Option.map_some, List.map_cons, List.map_nil, List.length_cons, List.length_nil, List.replicate, List.getElem?_cons_zero, List.getElem?_cons_succ, List.set_cons_zero, List.set_cons_succ, List.cons_append, List.nil_append, List.append_nil, Nat.sub_self, List.take_length, Bool.false_eq_true, reduceIte, Bool.and_true, Bool.true_and, Bool.not_true, Bool.not_false, Bool.false_and, Bool.and_false, Nat.reduceSub, List.replicate_succ, List.replicate_zero, Nat.succ_sub_succ, decide_true, decide_false, Int.reduceEq, Int.reduceLT, Int.reduceLE, Int.reduceNeg, Int.reduceGT, gt_iff_lt, ge_iff_le, Bool.and_assoc, List.any_cons, List.any_nil, Bool.or_true, Bool.true_or, Bool.or_false, Bool.false_or]
    cases tb
    · simp -implicitDefEqProofs only [f_passed, f_passed_x0, f_passed_x1, f_passed_x2, f_passed_x3, f_passed_x4, f_passed_x5, f_passed_x6, f_passed_x7, f_passed_x8, f_passed_x9, f_passed_x10, f_passed_x11, r_din, r_din1, r_din2, r_din3, r_pop, r_pop1, r_gt, r_gt1, r_gt2, r_cat, r_cat1, r_cat2, r_cat3, r_sk, r_sk1, r_sk2, r_sk3, r_keys, r_keys1, r_items, r_items1, r_dcm, r_dcm1, r_dcm2, r_dcs, r_dcs1, r_dcs2, r_dcs3, r_dcs4, r_whl, r_dctB, v_rd_ro, r_var, r_glob, r_int, r_bl, r_non, r_str, r_tup, r_tup1, r_lst, r_lst0, r_lst1, r_dct, r_dct1, r_dct2, r_fn, r_bin, r_bin1, r_bin2, r_neg, r_neg1, r_not, r_not1, r_and, r_and1, r_or, r_or1, r_ite, r_ite1, r_kbl, r_cmp, r_cmp1, r_cmp2, r_chain, r_chain1, r_chain2, r_chain3, r_chain4, r_call, r_call1, r_prim, r_prim1, r_primB, r_primB1, r_new, r_sub, r_sub1, r_sub2, r_dsub, r_dsub1, r_dsub2, r_app, r_app1, r_app2, r_get, r_get1, r_get2, r_get3, r_frz, r_frz1, r_es0, r_es, r_es1, r_es2, r_ps0, r_ps, r_ps1, r_ps2, r_ps3, r_o0, r_o, r_o1, r_g0, r_g, r_g1, r_cut, r_cut0, r_cut1, r_cut2, r_comp, r_comp1, r_comp2, r_step, r_step1, r_step2, r_step3, r_walkL0, r_walkL, r_walkL1, r_seq, r_seq1, r_seq2, r_rng1, r_rng1a, r_rng2, r_rng2a, r_rng2b, r_in, r_zip, r_zip1, r_zip2, r_c, r_asg, r_asg1, r_nx, r_set, r_set1, r_set2, r_set3, r_st, r_expr, r_expr1, r_ret, r_ret1, r_if, r_if1, r_pass, r_ss0, r_ss, r_ss1, r_ss2, r_for, r_for1, r_fstep, r_for2, r_walkF0, r_walkF, r_walkF1, r_walkF2, v_rd_int, v_rd_bl, v_rd_str, v_rd_non, v_rd_tup, v_rd_lst, v_rd_dct, v_rR_int, v_rR_bl, v_rR_str, v_rR_non, v_rR_tup, v_rR_lst, v_rR_dct, v_rR_ro, v_rR_box, v_and, v_or, a_0, a_1, a_2, a_3, a_4, p_int, p_inti, p_lenl, p_lent, p_max, p_min, p_abs, p_all3, f_sd, f_w, p_isint, p_isinl, p_isini, p_isinb, p_isins, p_isinn, c_isn, c_isb, c_isi, c_iss, c_ist, c_isl, c_inl, c_int, b_add, b_sub, b_mul, b_mul0, b_mul1, b_w2, b_w3, v_rd_w, v_un_w, c_eqi, c_nei, c_eqs, c_lt, c_le, c_gt, c_ge, s_t, s_l, t_nm, t_tp, t_0, t_1, u_int, u_bl, u_str, u_non, u_tup, u_lst, u_0, u_1, u_s, l_5, l_4, l_3, l_2, l_1, l_0, n_0, n_1, n_2, n_3, n_4, n_5, n_6, n_7, n_8, n_9, n_10, n_11, n_12, m_0, m_1, m_2, m_3, m_4, m_5, m_6, m_7, m_8, m_9, m_10, m_11, m_12, m_13, m_14, m_15, m_16, i_23, eq_nn, eq_bb, eq_ll, beq_self_eq_true, isTy, fin_bl, fin_int, fin_tup, fin_lst, fin_nx, Option.bind_some, Option.map_some, List.map_cons, List.map_nil, List.length_cons, List.length_nil, List.replicate, List.getElem?_cons_zero, List.getElem?_cons_succ, List.set_cons_zero, List.set_cons_succ, List.cons_append, List.nil_append, List.append_nil, Nat.sub_self, List.take_length, Bool.false_eq_true, reduceIte, Bool.and_true, Bool.true_and, Bool.not_true, Bool.not_false, Bool.false_and, Bool.and_false, Nat.reduceSub, List.replicate_succ, List.replicate_zero, Nat.succ_sub_succ, decide_true, decide_false, Int.reduceEq, Int.reduceLT, Int.reduceLE, Int.reduceNeg, Int.reduceGT, gt_iff_lt, ge_iff_le, Bool.and_assoc, List.any_cons, List.any_nil, Bool.or_true, Bool.true_or, Bool.or_false, Bool.false_or, move, clip]
      generalize (if (if h + m < lift then h + m else lift) > 0 then (if h + m < lift then h + m else lift) else 0) = there
      by_cases h1 : m = 0
      · subst h1
        simp -implicitDefEqProofs only [f_passed, f_passed_x0, f_passed_x1, f_passed_x2, f_passed_x3, f_passed_x4, f_passed_x5, f_passed_x6, f_passed_x7, f_passed_x8, f_passed_x9, f_passed_x10, f_passed_x11, r_din, r_din1, r_din2, r_din3, r_pop, r_pop1, r_gt, r_gt1, r_gt2, r_cat, r_cat1, r_cat2, r_cat3, r_sk, r_sk1, r_sk2, r_sk3, r_keys, r_keys1, r_items, r_items1, r_dcm, r_dcm1, r_dcm2, r_dcs, r_dcs1, r_dcs2, r_dcs3, r_dcs4, r_whl, r_dctB, v_rd_ro, r_var, r_glob, r_int, r_bl, r_non, r_str, r_tup, r_tup1, r_lst, r_lst0, r_lst1, r_dct, r_dct1, r_dct2, r_fn, r_bin, r_bin1, r_bin2, r_neg, r_neg1, r_not, r_not1, r_and, r_and1, r_or, r_or1, r_ite, r_ite1, r_kbl, r_cmp, r_cmp1, r_cmp2, r_chain, r_chain1, r_chain2, r_chain3, r_chain4, r_call, r_call1, r_prim, r_prim1, r_primB, r_primB1, r_new, r_sub, r_sub1, r_sub2, r_dsub, r_dsub1, r_dsub2, r_app, r_app1, r_app2, r_get, r_get1, r_get2, r_get3, r_frz, r_frz1, r_es0, r_es, r_es1, r_es2, r_ps0, r_ps, r_ps1, r_ps2, r_ps3, r_o0, r_o, r_o1, r_g0, r_g, r_g1, r_cut, r_cut0, r_cut1, r_cut2, r_comp, r_comp1, r_comp2, r_step, r_step1, r_step2, r_step3, r_walkL0, r_walkL, r_walkL1, r_seq, r_seq1, r_seq2, r_rng1, r_rng1a, r_rng2, r_rng2a, r_rng2b, r_in, r_zip, r_zip1, r_zip2, r_c, r_asg, r_asg1, r_nx, r_set, r_set1, r_set2, r_set3, r_st, r_expr, r_expr1, r_ret, r_ret1, r_if, r_if1, r_pass, r_ss0, r_ss, r_ss1, r_ss2, r_for, r_for1, r_fstep, r_for2, r_walkF0, r_walkF, r_walkF1, r_walkF2, v_rd_int, v_rd_bl, v_rd_str, v_rd_non, v_rd_tup, v_rd_lst, v_rd_dct, v_rR_int, v_rR_bl, v_rR_str, v_rR_non, v_rR_tup, v_rR_lst, v_rR_dct, v_rR_ro, v_rR_box, v_and, v_or, a_0, a_1, a_2, a_3, a_4, p_int, p_inti, p_lenl, p_lent, p_max, p_min, p_abs, p_all3, f_sd, f_w, p_isint, p_isinl, p_isini, p_isinb, p_isins, p_isinn, c_isn, c_isb, c_isi, c_iss, c_ist, c_isl, c_inl, c_int, b_add, b_sub, b_mul, b_mul0, b_mul1, b_w2, b_w3, v_rd_w, v_un_w, c_eqi, c_nei, c_eqs, c_lt, c_le, c_gt, c_ge, s_t, s_l, t_nm, t_tp, t_0, t_1, u_int, u_bl, u_str, u_non, u_tup, u_lst, u_0, u_1, u_s, l_5, l_4, l_3, l_2, l_1, l_0, n_0, n_1, n_2, n_3, n_4, n_5, n_6, n_7, n_8, n_9, n_10, n_11, n_12, m_0, m_1, m_2, m_3, m_4, m_5, m_6, m_7, m_8, m_9, m_10, m_11, m_12, m_13, m_14, m_15, m_16, i_23, eq_nn, eq_bb, eq_ll, beq_self_eq_true, isTy, fin_bl, fin_int, fin_tup, fin_lst, fin_nx, Option.bind_some, Option.map_some, List.map_cons, List.map_nil, List.length_cons, List.length_nil, List.replicate, List.getElem?_cons_zero, List.getElem?_cons_succ, List.set_cons_zero, List.set_cons_succ, List.cons_append, List.nil_append, List.append_nil, Nat.sub_self, List.take_length, Bool.false_eq_true, reduceIte, Bool.and_true, Bool.true_and, Bool.not_true, Bool.not_false, Bool.false_and, Bool.and_false, Nat.reduceSub, List.replicate_succ, List.replicate_zero, Nat.succ_sub_succ, decide_true, decide_false, Int.reduceEq, Int.reduceLT, Int.reduceLE, Int.reduceNeg, Int.reduceGT, gt_iff_lt, ge_iff_le, Bool.and_assoc, List.any_cons, List.any_nil, Bool.or_true, Bool.true_or, Bool.or_false, Bool.false_or]
      · by_cases h2 : 0 < there <;> by_cases h3 : there < lift <;> by_cases h4 : there = lift <;> first | (exfalso; omega) | simp -implicitDefEqProofs only [f_passed, f_passed_x0, f_passed_x1, f_passed_x2, f_passed_x3, f_passed_x4, f_passed_x5, f_passed_x6, f_passed_x7, f_passed_x8, f_passed_x9, f_passed_x10, f_passed_x11, h1, h2, h3, eq_true (show there = lift from h4), and_self, and_false, false_and, r_din, r_din1, r_din2, r_din3, r_pop, r_pop1, r_gt, r_gt1, r_gt2, r_cat, r_cat1, r_cat2, r_cat3, r_sk, r_sk1, r_sk2, r_sk3, r_keys, r_keys1, r_items, r_items1, r_dcm, r_dcm1, r_dcm2, r_dcs, r_dcs1, r_dcs2, r_dcs3, r_dcs4, r_whl, r_dctB, v_rd_ro, r_var, r_glob, r_int, r_bl, r_non, r_str, r_tup, r_tup1, r_lst, r_lst0, r_lst1, r_dct, r_dct1, r_dct2, r_fn, r_bin, r_bin1, r_bin2, r_neg, r_neg1, r_not, r_not1, r_and, r_and1, r_or, r_or1, r_ite, r_ite1, r_kbl, r_cmp, r_cmp1, r_cmp2, r_chain, r_chain1, r_chain2, r_chain3, r_chain4, r_call, r_call1, r_prim, r_prim1, r_primB, r_primB1, r_new, r_sub, r_sub1, r_sub2, r_dsub, r_dsub1, r_dsub2, r_app, r_app1, r_app2, r_get, r_get1, r_get2, r_get3, r_frz, r_frz1, r_es0, r_es, r_es1, r_es2, r_ps0, r_ps, r_ps1, r_ps2, r_ps3, r_o0, r_o, r_o1, r_g0, r_g, r_g1, r_cut, r_cut0, r_cut1, r_cut2, r_comp, r_comp1, r_comp2, r_step, r_step1, r_step2, r_step3, r_walkL0, r_walkL, r_walkL1, r_seq, r_seq1, r_seq2, r_rng1, r_rng1a, r_rng2, r_rng2a, r_rng2b, r_in, r_zip, r_zip1, r_zip2, r_c, r_asg, r_asg1, r_nx, r_set, r_set1, r_set2, r_set3, r_st, r_expr, r_expr1, r_ret, r_ret1, r_if, r_if1, r_pass, r_ss0, r_ss, r_ss1, r_ss2, r_for, r_for1, r_fstep, r_for2, r_walkF0, r_walkF, r_walkF1, r_walkF2, v_rd_int, v_rd_bl, v_rd_str, v_rd_non, v_rd_tup, v_rd_lst, v_rd_dct, v_rR_int, v_rR_bl, v_rR_str, v_rR_non, v_rR_tup, v_rR_lst, v_rR_dct, v_rR_ro, v_rR_box, v_and, v_or, a_0, a_1, a_2, a_3, a_4, p_int, p_inti, p_lenl, p_lent, p_max, p_min, p_abs, p_all3, f_sd, f_w, p_isint, p_isinl, p_isini, p_isinb, p_isins, p_isinn, c_isn, c_isb, c_isi, c_iss, c_ist, c_isl, c_inl, c_int, b_add, b_sub, b_mul, b_mul0, b_mul1, b_w2, b_w3, v_rd_w, v_un_w, c_eqi, c_nei, c_eqs, c_lt, c_le, c_gt, c_ge, s_t, s_l, t_nm, t_tp, t_0, t_1, u_int, u_bl, u_str, u_non, u_tup, u_lst, u_0, u_1, u_s, l_5, l_4, l_3, l_2, l_1, l_0, n_0, n_1, n_2, n_3, n_4, n_5, n_6, n_7, n_8, n_9, n_10, n_11, n_12, m_0, m_1, m_2, m_3, m_4, m_5, m_6, m_7, m_8, m_9, m_10, m_11, m_12, m_13, m_14, m_15, m_16, i_23, eq_nn, eq_bb, eq_ll, beq_self_eq_true, isTy, fin_bl, fin_int, fin_tup, fin_lst, fin_nx, Option.bind_some, Option.map_some, List.map_cons, List.map_nil, List.length_cons, List.length_nil, List.replicate, List.getElem?_cons_zero, List.getElem?_cons_succ, List.set_cons_zero, List.set_cons_succ, List.cons_append, List.nil_append, List.append_nil, Nat.sub_self, List.take_length, Bool.false_eq_true, reduceIte, Bool.and_true, Bool.true_and, Bool.not_true, Bool.not_false, Bool.false_and, Bool.and_false, Nat.reduceSub, List.replicate_succ, List.replicate_zero, Nat.succ_sub_succ, decide_true, decide_false, Int.reduceEq, Int.reduceLT, Int.reduceLE, Int.reduceNeg, Int.reduceGT, gt_iff_lt, ge_iff_le, Bool.and_assoc, List.any_cons, List.any_nil, Bool.or_true, Bool.true_or, Bool.or_false, Bool.false_or] | simp -implicitDefEqProofs only [f_passed, f_passed_x0, f_passed_x1, f_passed_x2, f_passed_x3, f_passed_x4, f_passed_x5, f_passed_x6, f_passed_x7, f_passed_x8, f_passed_x9, f_passed_x10, f_passed_x11, h1, h2, h3, h4, and_self, and_false, false_and, r_din, r_din1, r_din2, r_din3, r_pop, r_pop1, r_gt, r_gt1, r_gt2, r_cat, r_cat1, r_cat2, r_cat3, r_sk, r_sk1, r_sk2, r_sk3, r_keys, r_keys1, r_items, r_items1, r_dcm, r_dcm1, r_dcm2, r_dcs, r_dcs1, r_dcs2, r_dcs3, r_dcs4, r_whl, r_dctB, v_rd_ro, r_var, r_glob, r_int, r_bl, r_non, r_str, r_tup, r_tup1, r_lst, r_lst0, r_lst1, r_dct, r_dct1, r_dct2, r_fn, r_bin, r_bin1, r_bin2, r_neg, r_neg1, r_not, r_not1, r_and, r_and1, r_or, r_or1, r_ite, r_ite1, r_kbl, r_cmp, r_cmp1, r_cmp2, r_chain, r_chain1, r_chain2, r_chain3, r_chain4, r_call, r_call1, r_prim, r_prim1, r_primB, r_primB1, r_new, r_sub, r_sub1, r_sub2, r_dsub, r_dsub1, r_dsub2, r_app, r_app1, r_app2, r_get, r_get1, r_get2, r_get3, r_frz, r_frz1, r_es0, r_es, r_es1, r_es2, r_ps0, r_ps, r_ps1, r_ps2, r_ps3, r_o0, r_o, r_o1, r_g0, r_g, r_g1, r_cut, r_cut0, r_cut1, r_cut2, r_comp, r_comp1, r_comp2, r_step, r_step1, r_step2, r_step3, r_walkL0, r_walkL, r_walkL1, r_seq, r_seq1, r_seq2, r_rng1, r_rng1a, r_rng2, r_rng2a, r_rng2b, r_in, r_zip, r_zip1, r_zip2, r_c, r_asg, r_asg1, r_nx, r_set, r_set1, r_set2, r_set3, r_st, r_expr, r_expr1, r_ret, r_ret1, r_if, r_if1, r_pass, r_ss0, r_ss, r_ss1, r_ss2, r_for, r_for1, r_fstep, r_for2, r_walkF0, r_walkF, r_walkF1, r_walkF2, v_rd_int, v_rd_bl, v_rd_str, v_rd_non, v_rd_tup, v_rd_lst, v_rd_dct, v_rR_int, v_rR_bl, v_rR_str, v_rR_non, v_rR_tup, v_rR_lst, v_rR_dct, v_rR_ro, v_rR_box, v_and, v_or, a_0, a_1, a_2, a_3, a_4, p_int, p_inti, p_lenl, p_lent, p_max, p_min, p_abs, p_all3, f_sd, f_w, p_isint, p_isinl, p_isini, p_isinb, p_isins, p_isinn, c_isn, c_isb, c_isi, c_iss, c_ist, c_isl, c_inl, c_int, b_add, b_sub, b_mul, b_mul0, b_mul1, b_w2, b_w3, v_rd_w, v_un_w, c_eqi, c_nei, c_eqs, c_lt, c_le, c_gt, c_ge, s_t, s_l, t_nm, t_tp, t_0, t_1, u_int, u_bl, u_str, u_non, u_tup, u_lst, u_0, u_1, u_s, l_5, l_4, l_3, l_2, l_1, l_0, n_0, n_1, n_2, n_3, n_4, n_5, n_6, n_7, n_8, n_9, n_10, n_11, n_12, m_0, m_1, m_2, m_3, m_4, m_5, m_6, m_7, m_8, m_9, m_10, m_11, m_12, m_13, m_14, m_15, m_16, i_23, eq_nn, eq_bb, eq_ll, beq_self_eq_true, isTy, fin_bl, fin_int, fin_tup, fin_lst, fin_nx, Option.bind_some, Option.map_some, List.map_cons, List.map_nil, List.length_cons, List.length_nil, List.replicate, List.getElem?_cons_zero, List.getElem?_cons_succ, List.set_cons_zero, List.set_cons_succ, List.cons_append, List.nil_append, List.append_nil, Nat.sub_self, List.take_length, Bool.false_eq_true, reduceIte, Bool.and_true, Bool.true_and, Bool.not_true, Bool.not_false, Bool.false_and, Bool.and_false, Nat.reduceSub, List.replicate_succ, List.replicate_zero, Nat.succ_sub_succ, decide_true, decide_false, Int.reduceEq, Int.reduceLT, Int.reduceLE, Int.reduceNeg, Int.reduceGT, gt_iff_lt, ge_iff_le, Bool.and_assoc, List.any_cons, List.any_nil, Bool.or_true, Bool.true_or, Bool.or_false, Bool.false_or]
    · simp -implicitDefEqProofs only [f_passed, f_passed_x0, f_passed_x1, f_passed_x2, f_passed_x3, f_passed_x4, f_passed_x5, f_passed_x6, f_passed_x7, f_passed_x8, f_passed_x9, f_passed_x10, f_passed_x11, r_din, r_din1, r_din2, r_din3, r_pop, r_pop1, r_gt, r_gt1, r_gt2, r_cat, r_cat1, r_cat2, r_cat3, r_sk, r_sk1, r_sk2, r_sk3, r_keys, r_keys1, r_items, r_items1, r_dcm, r_dcm1, r_dcm2, r_dcs, r_dcs1, r_dcs2, r_dcs3, r_dcs4, r_whl, r_dctB, v_rd_ro, r_var, r_glob, r_int, r_bl, r_non, r_str, r_tup, r_tup1, r_lst, r_lst0, r_lst1, r_dct, r_dct1, r_dct2, r_fn, r_bin, r_bin1, r_bin2, r_neg, r_neg1, r_not, r_not1, r_and, r_and1, r_or, r_or1, r_ite, r_ite1, r_kbl, r_cmp, r_cmp1, r_cmp2, r_chain, r_chain1, r_chain2, r_chain3, r_chain4, r_call, r_call1, r_prim, r_prim1, r_primB, r_primB1, r_new, r_sub, r_sub1, r_sub2, r_dsub, r_dsub1, r_dsub2, r_app, r_app1, r_app2, r_get, r_get1, r_get2, r_get3, r_frz, r_frz1, r_es0, r_es, r_es1, r_es2, r_ps0, r_ps, r_ps1, r_ps2, r_ps3, r_o0, r_o, r_o1, r_g0, r_g, r_g1, r_cut, r_cut0, r_cut1, r_cut2, r_comp, r_comp1, r_comp2, r_step, r_step1, r_step2, r_step3, r_walkL0, r_walkL, r_walkL1, r_seq, r_seq1, r_seq2, r_rng1, r_rng1a, r_rng2, r_rng2a, r_rng2b, r_in, r_zip, r_zip1, r_zip2, r_c, r_asg, r_asg1, r_nx, r_set, r_set1, r_set2, r_set3, r_st, r_expr, r_expr1, r_ret, r_ret1, r_if, r_if1, r_pass, r_ss0, r_ss, r_ss1, r_ss2, r_for, r_for1, r_fstep, r_for2, r_walkF0, r_walkF, r_walkF1, r_walkF2, v_rd_int, v_rd_bl, v_rd_str, v_rd_non, v_rd_tup, v_rd_lst, v_rd_dct, v_rR_int, v_rR_bl, v_rR_str, v_rR_non, v_rR_tup, v_rR_lst, v_rR_dct, v_rR_ro, v_rR_box, v_and, v_or, a_0, a_1, a_2, a_3, a_4, p_int, p_inti, p_lenl, p_lent, p_max, p_min, p_abs, p_all3, f_sd, f_w, p_isint, p_isinl, p_isini, p_isinb, p_isins, p_isinn, c_isn, c_isb, c_isi, c_iss, c_ist, c_isl, c_inl, c_int, b_add, b_sub, b_mul, b_mul0, b_mul1, b_w2, b_w3, v_rd_w, v_un_w, c_eqi, c_nei, c_eqs, c_lt, c_le, c_gt, c_ge, s_t, s_l, t_nm, t_tp, t_0, t_1, u_int, u_bl, u_str, u_non, u_tup, u_lst, u_0, u_1, u_s, l_5, l_4, l_3, l_2, l_1, l_0, n_0, n_1, n_2, n_3, n_4, n_5, n_6, n_7, n_8, n_9, n_10, n_11, n_12, m_0, m_1, m_2, m_3, m_4, m_5, m_6, m_7, m_8, m_9, m_10, m_11, m_12, m_13, m_14, m_15, m_16, i_23, eq_nn, eq_bb, eq_ll, beq_self_eq_true, isTy, fin_bl, fin_int, fin_tup, fin_lst, fin_nx, Option.bind_some, Option.map_some, List.map_cons, List.map_nil, List.length_cons, List.length_nil, List.replicate, List.getElem?_cons_zero, List.getElem?_cons_succ, List.set_cons_zero, List.set_cons_succ, List.cons_append, List.nil_append, List.append_nil, Nat.sub_self, List.take_length, Bool.false_eq_true, reduceIte, Bool.and_true, Bool.true_and, Bool.not_true, Bool.not_false, Bool.false_and, Bool.and_false, Nat.reduceSub, List.replicate_succ, List.replicate_zero, Nat.succ_sub_succ, decide_true, decide_false, Int.reduceEq, Int.reduceLT, Int.reduceLE, Int.reduceNeg, Int.reduceGT, gt_iff_lt, ge_iff_le, Bool.and_assoc, List.any_cons, List.any_nil, Bool.or_true, Bool.true_or, Bool.or_false, Bool.false_or, move, clip]
      generalize (if (if h + 1 < lift then h + 1 else lift) > 0 then (if h + 1 < lift then h + 1 else lift) else 0) = there
      by_cases h2 : 0 < there <;> by_cases h3 : there < lift <;> by_cases h4 : there = lift <;> first | (exfalso; omega) | simp -implicitDefEqProofs only [f_passed, f_passed_x0, f_passed_x1, f_passed_x2, f_passed_x3, f_passed_x4, f_passed_x5, f_passed_x6, f_passed_x7, f_passed_x8, f_passed_x9, f_passed_x10, f_passed_x11, h2, h3, eq_true (show there = lift from h4), and_self, and_false, false_and, r_din, r_din1, r_din2, r_din3, r_pop, r_pop1, r_gt, r_gt1, r_gt2, r_cat, r_cat1, r_cat2, r_cat3, r_sk, r_sk1, r_sk2, r_sk3, r_keys, r_keys1, r_items, r_items1, r_dcm, r_dcm1, r_dcm2, r_dcs, r_dcs1, r_dcs2, r_dcs3, r_dcs4, r_whl, r_dctB, v_rd_ro, r_var, r_glob, r_int, r_bl, r_non, r_str, r_tup, r_tup1, r_lst, r_lst0, r_lst1, r_dct, r_dct1, r_dct2, r_fn, r_bin, r_bin1, r_bin2, r_neg, r_neg1, r_not, r_not1, r_and, r_and1, r_or, r_or1, r_ite, r_ite1, r_kbl, r_cmp, r_cmp1, r_cmp2, r_chain, r_chain1, r_chain2, r_chain3, r_chain4, r_call, r_call1, r_prim, r_prim1, r_primB, r_primB1, r_new, r_sub, r_sub1, r_sub2, r_dsub, r_dsub1, r_dsub2, r_app, r_app1, r_app2, r_get, r_get1, r_get2, r_get3, r_frz, r_frz1, r_es0, r_es, r_es1, r_es2, r_ps0, r_ps, r_ps1, r_ps2, r_ps3, r_o0, r_o, r_o1, r_g0, r_g, r_g1, r_cut, r_cut0, r_cut1, r_cut2, r_comp, r_comp1, r_comp2, r_step, r_step1, r_step2, r_step3, r_walkL0, r_walkL, r_walkL1, r_seq, r_seq1, r_seq2, r_rng1, r_rng1a, r_rng2, r_rng2a, r_rng2b, r_in, r_zip, r_zip1, r_zip2, r_c, r_asg, r_asg1, r_nx, r_set, r_set1, r_set2, r_set3, r_st, r_expr, r_expr1, r_ret, r_ret1, r_if, r_if1, r_pass, r_ss0, r_ss, r_ss1, r_ss2, r_for, r_for1, r_fstep, r_for2, r_walkF0, r_walkF, r_walkF1, r_walkF2, v_rd_int, v_rd_bl, v_rd_str, v_rd_non, v_rd_tup, v_rd_lst, v_rd_dct, v_rR_int, v_rR_bl, v_rR_str, v_rR_non, v_rR_tup, v_rR_lst, v_rR_dct, v_rR_ro, v_rR_box, v_and, v_or, a_0, a_1, a_2, a_3, a_4, p_int, p_inti, p_lenl, p_lent, p_max, p_min, p_abs, p_all3, f_sd, f_w, p_isint, p_isinl, p_isini, p_isinb, p_isins, p_isinn, c_isn, c_isb, c_isi, c_iss, c_ist, c_isl, c_inl, c_int, b_add, b_sub, b_mul, b_mul0, b_mul1, b_w2, b_w3, v_rd_w, v_un_w, c_eqi, c_nei, c_eqs, c_lt, c_le, c_gt, c_ge, s_t, s_l, t_nm, t_tp, t_0, t_1, u_int, u_bl, u_str, u_non, u_tup, u_lst, u_0, u_1, u_s, l_5, l_4, l_3, l_2, l_1, l_0, n_0, n_1, n_2, n_3, n_4, n_5, n_6, n_7, n_8, n_9, n_10, n_11, n_12, m_0, m_1, m_2, m_3, m_4, m_5, m_6, m_7, m_8, m_9, m_10, m_11, m_12, m_13, m_14, m_15, m_16, i_23, eq_nn, eq_bb, eq_ll, beq_self_eq_true, isTy, fin_bl, fin_int, fin_tup, fin_lst, fin_nx, Option.bind_some, Option.map_some, List.map_cons, List.map_nil, List.length_cons, List.length_nil, List.replicate, List.getElem?_cons_zero, List.getElem?_cons_succ, List.set_cons_zero, List.set_cons_succ, List.cons_append, List.nil_append, List.append_nil, Nat.sub_self, List.take_length, Bool.false_eq_true, reduceIte, Bool.and_true, Bool.true_and, Bool.not_true, Bool.not_false, Bool.false_and, Bool.and_false, Nat.reduceSub, List.replicate_succ, List.replicate_zero, Nat.succ_sub_succ, decide_true, decide_false, Int.reduceEq, Int.reduceLT, Int.reduceLE, Int.reduceNeg, Int.reduceGT, gt_iff_lt, ge_iff_le, Bool.and_assoc, List.any_cons, List.any_nil, Bool.or_true, Bool.true_or, Bool.or_false, Bool.false_or] | simp -implicitDefEqProofs only [f_passed, f_passed_x0, f_passed_x1, f_passed_x2, f_passed_x3, f_passed_x4, f_passed_x5, f_passed_x6, f_passed_x7, f_passed_x8, f_passed_x9, f_passed_x10, f_passed_x11, h2, h3, h4, and_self, and_false, false_and, r_din, r_din1, r_din2, r_din3, r_pop, r_pop1, r_gt, r_gt1, r_gt2, r_cat, r_cat1, r_cat2, r_cat3, r_sk, r_sk1, r_sk2, r_sk3, r_keys, r_keys1, r_items, r_items1, r_dcm, r_dcm1, r_dcm2, r_dcs, r_dcs1, r_dcs2, r_dcs3, r_dcs4, r_whl, r_dctB, v_rd_ro, r_var, r_glob, r_int, r_bl, r_non, r_str, r_tup, r_tup1, r_lst, r_lst0, r_lst1, r_dct, r_dct1, r_dct2, r_fn, r_bin, r_bin1, r_bin2, r_neg, r_neg1, r_not, r_not1, r_and, r_and1, r_or, r_or1, r_ite, r_ite1, r_kbl, r_cmp, r_cmp1, r_cmp2, r_chain, r_chain1, r_chain2, r_chain3, r_chain4, r_call, r_call1, r_prim, r_prim1, r_primB, r_primB1, r_new, r_sub, r_sub1, r_sub2, r_dsub, r_dsub1, r_dsub2, r_app, r_app1, r_app2, r_get, r_get1, r_get2, r_get3, r_frz, r_frz1, r_es0, r_es, r_es1, r_es2, r_ps0, r_ps, r_ps1, r_ps2, r_ps3, r_o0, r_o, r_o1, r_g0, r_g, r_g1, r_cut, r_cut0, r_cut1, r_cut2, r_comp, r_comp1, r_comp2, r_step, r_step1, r_step2, r_step3, r_walkL0, r_walkL, r_walkL1, r_seq, r_seq1, r_seq2, r_rng1, r_rng1a, r_rng2, r_rng2a, r_rng2b, r_in, r_zip, r_zip1, r_zip2, r_c, r_asg, r_asg1, r_nx, r_set, r_set1, r_set2, r_set3, r_st, r_expr, r_expr1, r_ret, r_ret1, r_if, r_if1, r_pass, r_ss0, r_ss, r_ss1, r_ss2, r_for, r_for1, r_fstep, r_for2, r_walkF0, r_walkF, r_walkF1, r_walkF2, v_rd_int, v_rd_bl, v_rd_str, v_rd_non, v_rd_tup, v_rd_lst, v_rd_dct, v_rR_int, v_rR_bl, v_rR_str, v_rR_non, v_rR_tup, v_rR_lst, v_rR_dct, v_rR_ro, v_rR_box, v_and, v_or, a_0, a_1, a_2, a_3, a_4, p_int, p_inti, p_lenl, p_lent, p_max, p_min, p_abs, p_all3, f_sd, f_w, p_isint, p_isinl, p_isini, p_isinb, p_isins, p_isinn, c_isn, c_isb, c_isi, c_iss, c_ist, c_isl, c_inl, c_int, b_add, b_sub, b_mul, b_mul0, b_mul1, b_w2, b_w3, v_rd_w, v_un_w, c_eqi, c_nei, c_eqs, c_lt, c_le, c_gt, c_ge, s_t, s_l, t_nm, t_tp, t_0, t_1, u_int, u_bl, u_str, u_non, u_tup, u_lst, u_0, u_1, u_s, l_5, l_4, l_3, l_2, l_1, l_0, n_0, n_1, n_2, n_3, n_4, n_5, n_6, n_7, n_8, n_9, n_10, n_11, n_12, m_0, m_1, m_2, m_3, m_4, m_5, m_6, m_7, m_8, m_9, m_10, m_11, m_12, m_13, m_14, m_15, m_16, i_23, eq_nn, eq_bb, eq_ll, beq_self_eq_true, isTy, fin_bl, fin_int, fin_tup, fin_lst, fin_nx, Option.bind_some, Option.map_some, List.map_cons, List.map_nil, List.length_cons, List.length_nil, List.replicate, List.getElem?_cons_zero, List.getElem?_cons_succ, List.set_cons_zero, List.set_cons_succ, List.cons_append, List.nil_append, List.append_nil, Nat.sub_self, List.take_length, Bool.false_eq_true, reduceIte, Bool.and_true, Bool.true_and, Bool.not_true, Bool.not_false, Bool.false_and, Bool.and_false, Nat.reduceSub, List.replicate_succ, List.replicate_zero, Nat.succ_sub_succ, decide_true, decide_false, Int.reduceEq, Int.reduceLT, Int.reduceLE, Int.reduceNeg, Int.reduceGT, gt_iff_lt, ge_iff_le, Bool.and_assoc, List.any_cons, List.any_nil, Bool.or_true, Bool.true_or, Bool.or_false, Bool.false_or]
  · simp -implicitDefEqProofs only [Choice.d, passed, if_true]
    simp -implicitDefEqProofs only [f_passed, f_passed_x0, f_passed_x1, f_passed_x2, f_passed_x3, f_passed_x4, f_passed_x5, f_passed_x6, f_passed_x7, f_passed_x8, f_passed_x9, f_passed_x10, f_passed_x11, r_din, r_din1, r_din2, r_din3, r_pop, r_pop1, r_gt, r_gt1, r_gt2, r_cat, r_cat1, r_cat2, r_cat3, r_sk, r_sk1, r_sk2, r_sk3, r_keys, r_keys1, r_items, r_items1, r_dcm, r_dcm1, r_dcm2, r_dcs, r_dcs1, r_dcs2, r_dcs3, r_dcs4, r_whl, r_dctB, v_rd_ro, r_var, r_glob, r_int, r_bl, r_non, r_str, r_tup, r_tup1, r_lst, r_lst0, r_lst1, r_dct, r_dct1, r_dct2, r_fn, r_bin, r_bin1, r_bin2, r_neg, r_neg1, r_not, r_not1, r_and, r_and1, r_or, r_or1, r_ite, r_ite1, r_kbl, r_cmp, r_cmp1, r_cmp2, r_chain, r_chain1, r_chain2, r_chain3, r_chain4, r_call, r_call1, r_prim, r_prim1, r_primB, r_primB1, r_new, r_sub, r_sub1, r_sub2, r_dsub, r_dsub1, r_dsub2, r_app, r_app1, r_app2, r_get, r_get1, r_get2, r_get3, r_frz, r_frz1, r_es0, r_es, r_es1, r_es2, r_ps0, r_ps, r_ps1, r_ps2, r_ps3, r_o0, r_o, r_o1, r_g0, r_g, r_g1, r_cut, r_cut0, r_cut1, r_cut2, r_comp, r_comp1, r_comp2, r_step, r_step1, r_step2, r_step3, r_walkL0, r_walkL, r_walkL1, r_seq, r_seq1, r_seq2, r_rng1, r_rng1a, r_rng2, r_rng2a, r_rng2b, r_in, r_zip, r_zip1, r_zip2, r_c, r_asg, r_asg1, r_nx, r_set, r_set1, r_set2, r_set3, r_st, r_expr, r_expr1, r_ret, r_ret1, r_if, r_if1, r_pass, r_ss0, r_ss, r_ss1, r_ss2, r_for, r_for1, r_fstep, r_for2, r_walkF0, r_walkF, r_walkF1, r_walkF2, v_rd_int, v_rd_bl, v_rd_str, v_rd_non, v_rd_tup, v_rd_lst, v_rd_dct, v_rR_int, v_rR_bl, v_rR_str, v_rR_non, v_rR_tup, v_rR_lst, v_rR_dct, v_rR_ro, v_rR_box, v_and, v_or, a_0, a_1, a_2, a_3, a_4, p_int, p_inti, p_lenl, p_lent, p_max, p_min, p_abs, p_all3, f_sd, f_w, p_isint, p_isinl, p_isini, p_isinb, p_isins, p_isinn, c_isn, c_isb, c_isi, c_iss, c_ist, c_isl, c_inl, c_int, b_add, b_sub, b_mul, b_mul0, b_mul1, b_w2, b_w3, v_rd_w, v_un_w, c_eqi, c_nei, c_eqs, c_lt, c_le, c_gt, c_ge, s_t, s_l, t_nm, t_tp, t_0, t_1, u_int, u_bl, u_str, u_non, u_tup, u_lst, u_0, u_1, u_s, l_5, l_4, l_3, l_2, l_1, l_0, n_0, n_1, n_2, n_3, n_4, n_5, n_6, n_7, n_8, n_9, n_10, n_11, n_12, m_0, m_1, m_2, m_3, m_4, m_5, m_6, m_7, m_8, m_9, m_10, m_11, m_12, m_13, m_14, m_15, m_16, i_23, eq_nn, eq_bb, eq_ll, beq_self_eq_true, isTy, fin_bl, fin_int, fin_tup, fin_lst, fin_nx, Option.bind_some, Option.map_some, List.map_cons, List.map_nil, List.length_cons, List.length_nil, List.replicate, List.getElem?_cons_zero, List.getElem?_cons_succ, List.set_cons_zero, List.set_cons_succ, List.cons_append, List.nil_append, List.append_nil, Nat.sub_self, List.take_length, Bool.false_eq_true, reduceIte, Bool.and_true, Bool.true_and, Bool.not_true, Bool.not_false, Bool.false_and, Bool.and_false, Nat.reduceSub, List.replicate_succ, List.replicate_zero, Nat.succ_sub_succ, decide_true, decide_false, Int.reduceEq, Int.reduceLT, Int.reduceLE, Int.reduceNeg, Int.reduceGT, gt_iff_lt, ge_iff_le, Bool.and_assoc, List.any_cons, List.any_nil, Bool.or_true, Bool.true_or, Bool.or_false, Bool.false_or, e1]
    rfl
theorem ev_stop (fuel k : Nat) (p : Plan) (s : Stand) (st : Store) : evCall T fuel (k + 1) 23 [p.d, s.d] st = some (.int (stop p.r s.m), st) := by
  rw [call_eq (fn := f_law_stop) rfl rfl]
  obtain ⟨lift, r, eye, clock, w, mem⟩ := p
  cases r <;> simp -implicitDefEqProofs only [f_law_stop, f_law_stop_x0, f_law_stop_x1, Plan.d, Plan.pd, Stand.d, Rs.s, q_other_same, q_other_up, q_same_other, q_same_up, q_up_other, q_up_same, q_moves_none, q_moves_open, q_none_moves, q_none_open, q_open_moves, q_open_none, k_other, k_same, k_up, k_moves, k_none, k_open, k_dead, k_hits, k_turned, beq_self_eq_true, stop, Int.zero_sub, r_din, r_din1, r_din2, r_din3, r_pop, r_pop1, r_gt, r_gt1, r_gt2, r_cat, r_cat1, r_cat2, r_cat3, r_sk, r_sk1, r_sk2, r_sk3, r_keys, r_keys1, r_items, r_items1, r_dcm, r_dcm1, r_dcm2, r_dcs, r_dcs1, r_dcs2, r_dcs3, r_dcs4, r_whl, r_dctB, v_rd_ro, r_var, r_glob, r_int, r_bl, r_non, r_str, r_tup, r_tup1, r_lst, r_lst0, r_lst1, r_dct, r_dct1, r_dct2, r_fn, r_bin, r_bin1, r_bin2, r_neg, r_neg1, r_not, r_not1, r_and, r_and1, r_or, r_or1, r_ite, r_ite1, r_kbl, r_cmp, r_cmp1, r_cmp2, r_chain, r_chain1, r_chain2, r_chain3, r_chain4, r_call, r_call1, r_prim, r_prim1, r_primB, r_primB1, r_new, r_sub, r_sub1, r_sub2, r_dsub, r_dsub1, r_dsub2, r_app, r_app1, r_app2, r_get, r_get1, r_get2, r_get3, r_frz, r_frz1, r_es0, r_es, r_es1, r_es2, r_ps0, r_ps, r_ps1, r_ps2, r_ps3, r_o0, r_o, r_o1, r_g0, r_g, r_g1, r_cut, r_cut0, r_cut1, r_cut2, r_comp, r_comp1, r_comp2, r_step, r_step1, r_step2, r_step3, r_walkL0, r_walkL, r_walkL1, r_seq, r_seq1, r_seq2, r_rng1, r_rng1a, r_rng2, r_rng2a, r_rng2b, r_in, r_zip, r_zip1, r_zip2, r_c, r_asg, r_asg1, r_nx, r_set, r_set1, r_set2, r_set3, r_st, r_expr, r_expr1, r_ret, r_ret1, r_if, r_if1, r_pass, r_ss0, r_ss, r_ss1, r_ss2, r_for, r_for1, r_fstep, r_for2, r_walkF0, r_walkF, r_walkF1, r_walkF2, v_rd_int, v_rd_bl, v_rd_str, v_rd_non, v_rd_tup, v_rd_lst, v_rd_dct, v_rR_int, v_rR_bl, v_rR_str, v_rR_non, v_rR_tup, v_rR_lst, v_rR_dct, v_rR_ro, v_rR_box, v_and, v_or, a_0, a_1, a_2, a_3, a_4, p_int, p_inti, p_lenl, p_lent, p_max, p_min, p_abs, p_all3, f_sd, f_w, p_isint, p_isinl, p_isini, p_isinb, p_isins, p_isinn, c_isn, c_isb, c_isi, c_iss, c_ist, c_isl, c_inl, c_int, b_add, b_sub, b_mul, b_mul0, b_mul1, b_w2, b_w3, v_rd_w, v_un_w, c_eqi, c_nei, c_eqs, c_lt, c_le, c_gt, c_ge, s_t, s_l, t_nm, t_tp, t_0, t_1, u_int, u_bl, u_str, u_non, u_tup, u_lst, u_0, u_1, u_s, l_5, l_4, l_3, l_2, l_1, l_0, n_0, n_1, n_2, n_3, n_4, n_5, n_6, n_7, n_8, n_9, n_10, n_11, n_12, m_0, m_1, m_2, m_3, m_4, m_5, m_6, m_7, m_8, m_9, m_10, m_11, m_12, m_13, m_14, m_15, m_16, i_23, eq_nn, eq_bb, eq_ll, beq_self_eq_true, isTy, fin_bl, fin_int, fin_tup, fin_lst, fin_nx, Option.bind_some, Option.map_some, List.map_cons, List.map_nil, List.length_cons, List.length_nil, List.replicate, List.getElem?_cons_zero, List.getElem?_cons_succ, List.set_cons_zero, List.set_cons_succ, List.cons_append, List.nil_append, List.append_nil, Nat.sub_self, List.take_length, Bool.false_eq_true, reduceIte, Bool.and_true, Bool.true_and, Bool.not_true, Bool.not_false, Bool.false_and, Bool.and_false, Nat.reduceSub, List.replicate_succ, List.replicate_zero, Nat.succ_sub_succ, decide_true, decide_false, Int.reduceEq, Int.reduceLT, Int.reduceLE, Int.reduceNeg, Int.reduceGT, gt_iff_lt, ge_iff_le, Bool.and_assoc, List.any_cons, List.any_nil, Bool.or_true, Bool.true_or, Bool.or_false, Bool.false_or]
theorem ev_law_lit (fuel k : Nat) (p : Plan) (s : Stand) (hs : Fits p s) (st : Store) : evCall T fuel (k + 1) 25 [p.d, s.d] st = some (.bl (lit p s), st) := by
  have h0 := hs.1
  rw [call_eq (fn := f_law_lit) rfl rfl]
  obtain ⟨lift, r, eye, clock, w, mem⟩ := p
  obtain ⟨h, m, l, t⟩ := s
  simp only at h0
  have e : decide (h > 0) = !decide (h = 0) := by by_cases z : h = 0 <;> simp -implicitDefEqProofs [z]; omega
  cases w <;> simp -implicitDefEqProofs [f_law_lit, f_law_lit_x0, Plan.d, Plan.pd, Stand.d, Wy.s, lit, e, r_din, r_din1, r_din2, r_din3, r_pop, r_pop1, r_gt, r_gt1, r_gt2, r_cat, r_cat1, r_cat2, r_cat3, r_sk, r_sk1, r_sk2, r_sk3, r_keys, r_keys1, r_items, r_items1, r_dcm, r_dcm1, r_dcm2, r_dcs, r_dcs1, r_dcs2, r_dcs3, r_dcs4, r_whl, r_dctB, v_rd_ro, r_var, r_glob, r_int, r_bl, r_non, r_str, r_tup, r_tup1, r_lst, r_lst0, r_lst1, r_dct, r_dct1, r_dct2, r_fn, r_bin, r_bin1, r_bin2, r_neg, r_neg1, r_not, r_not1, r_and, r_and1, r_or, r_or1, r_ite, r_ite1, r_kbl, r_cmp, r_cmp1, r_cmp2, r_chain, r_chain1, r_chain2, r_chain3, r_chain4, r_call, r_call1, r_prim, r_prim1, r_primB, r_primB1, r_new, r_sub, r_sub1, r_sub2, r_dsub, r_dsub1, r_dsub2, r_app, r_app1, r_app2, r_get, r_get1, r_get2, r_get3, r_frz, r_frz1, r_es0, r_es, r_es1, r_es2, r_ps0, r_ps, r_ps1, r_ps2, r_ps3, r_o0, r_o, r_o1, r_g0, r_g, r_g1, r_cut, r_cut0, r_cut1, r_cut2, r_comp, r_comp1, r_comp2, r_step, r_step1, r_step2, r_step3, r_walkL0, r_walkL, r_walkL1, r_seq, r_seq1, r_seq2, r_rng1, r_rng1a, r_rng2, r_rng2a, r_rng2b, r_in, r_zip, r_zip1, r_zip2, r_c, r_asg, r_asg1, r_nx, r_set, r_set1, r_set2, r_set3, r_st, r_expr, r_expr1, r_ret, r_ret1, r_if, r_if1, r_pass, r_ss0, r_ss, r_ss1, r_ss2, r_for, r_for1, r_fstep, r_for2, r_walkF0, r_walkF, r_walkF1, r_walkF2, v_rd_int, v_rd_bl, v_rd_str, v_rd_non, v_rd_tup, v_rd_lst, v_rd_dct, v_rR_int, v_rR_bl, v_rR_str, v_rR_non, v_rR_tup, v_rR_lst, v_rR_dct, v_rR_ro, v_rR_box, v_and, v_or, a_0, a_1, a_2, a_3, a_4, p_int, p_inti, p_lenl, p_lent, p_max, p_min, p_abs, p_all3, f_sd, f_w, p_isint, p_isinl, p_isini, p_isinb, p_isins, p_isinn, c_isn, c_isb, c_isi, c_iss, c_ist, c_isl, c_inl, c_int, b_add, b_sub, b_mul, b_mul0, b_mul1, b_w2, b_w3, v_rd_w, v_un_w, c_eqi, c_nei, c_eqs, c_lt, c_le, c_gt, c_ge, s_t, s_l, t_nm, t_tp, t_0, t_1, u_int, u_bl, u_str, u_non, u_tup, u_lst, u_0, u_1, u_s, l_5, l_4, l_3, l_2, l_1, l_0, v_ite_bl, v_ite_int, binD, cmpD, primD, subD, dsubD, atD, bindT, bindTs, D.under, D.unders, isTy, inD, isStr, allStr, eqD, scal, D.eqv, D.eqvs, fin_bl, fin_int, fin_tup, fin_lst, fin_nx, LIM, Option.bind_some, Option.map_some, dmake, keyFits, keyOk, isStr, dput, dget, kfind, getD2, isDct, new, q_other_same, q_other_up, q_same_other, q_same_up, q_up_other, q_up_same, q_moves_none, q_moves_open, q_none_moves, q_none_open, q_open_moves, q_open_none, k_other, k_same, k_up, k_moves, k_none, k_open, k_dead, k_hits, k_turned] <;> rfl
theorem tick_tail (c : Ev.Ctx) (st : Store) (h m l t lift : Int) (ws : List Str) (somebody starts : Bool) (x1 x2 x3 x4 x5 x6 x7 x8 x9 x10 x11 : Option D) (hw : ws.length ≤ 1) (r : Rs) (eye : Bool) (clock : Int) (w : Wy) (mem : Bool) (l0 t0 m0 : Int) :
    evSs c f_law_tick_8 [x1, x2, x3, x4, some (.int lift), some (.int h), some (.int m), some (.int l), some (.int t), x5, some (.bl somebody), x6, some (words ws), some (.bl starts), x7, x8, x9, x10, x11] st =
      some (.rt (.tup [(lawMove ⟨lift, r, eye, clock, w, mem⟩ ⟨h, m0, l0, t0⟩ m l t ws starts somebody).1.d, words (lawMove ⟨lift, r, eye, clock, w, mem⟩ ⟨h, m0, l0, t0⟩ m l t ws starts somebody).2]), st) := by
  have hw1 : ws.length ≤ 8 := Nat.le_trans hw (by decide)
  have hw2 : (ws ++ opt starts s_dead).length ≤ 8 := by cases starts <;> simp -implicitDefEqProofs [opt] <;> omega
  simp -implicitDefEqProofs only [lawMove]
  rcases Classical.propComplete (m = 0) with hm | hm
  · simp -implicitDefEqProofs only [f_law_tick_x8, f_law_tick_x9, f_law_tick_x10, f_law_tick_x11, f_law_tick_x12, f_law_tick_x13, hm, of_eq_true hm, Stand.d, r_din, r_din1, r_din2, r_din3, r_pop, r_pop1, r_gt, r_gt1, r_gt2, r_cat, r_cat1, r_cat2, r_cat3, r_sk, r_sk1, r_sk2, r_sk3, r_keys, r_keys1, r_items, r_items1, r_dcm, r_dcm1, r_dcm2, r_dcs, r_dcs1, r_dcs2, r_dcs3, r_dcs4, r_whl, r_dctB, v_rd_ro, r_var, r_glob, r_int, r_bl, r_non, r_str, r_tup, r_tup1, r_lst, r_lst0, r_lst1, r_dct, r_dct1, r_dct2, r_fn, r_bin, r_bin1, r_bin2, r_neg, r_neg1, r_not, r_not1, r_and, r_and1, r_or, r_or1, r_ite, r_ite1, r_kbl, r_cmp, r_cmp1, r_cmp2, r_chain, r_chain1, r_chain2, r_chain3, r_chain4, r_call, r_call1, r_prim, r_prim1, r_primB, r_primB1, r_new, r_sub, r_sub1, r_sub2, r_dsub, r_dsub1, r_dsub2, r_app, r_app1, r_app2, r_get, r_get1, r_get2, r_get3, r_frz, r_frz1, r_es0, r_es, r_es1, r_es2, r_ps0, r_ps, r_ps1, r_ps2, r_ps3, r_o0, r_o, r_o1, r_g0, r_g, r_g1, r_cut, r_cut0, r_cut1, r_cut2, r_comp, r_comp1, r_comp2, r_step, r_step1, r_step2, r_step3, r_walkL0, r_walkL, r_walkL1, r_seq, r_seq1, r_seq2, r_rng1, r_rng1a, r_rng2, r_rng2a, r_rng2b, r_in, r_zip, r_zip1, r_zip2, r_c, r_asg, r_asg1, r_nx, r_set, r_set1, r_set2, r_set3, r_st, r_expr, r_expr1, r_ret, r_ret1, r_if, r_if1, r_pass, r_ss0, r_ss, r_ss1, r_ss2, r_for, r_for1, r_fstep, r_for2, r_walkF0, r_walkF, r_walkF1, r_walkF2, v_rd_int, v_rd_bl, v_rd_str, v_rd_non, v_rd_tup, v_rd_lst, v_rd_dct, v_rR_int, v_rR_bl, v_rR_str, v_rR_non, v_rR_tup, v_rR_lst, v_rR_dct, v_rR_ro, v_rR_box, v_and, v_or, a_0, a_1, a_2, a_3, a_4, p_int, p_inti, p_lenl, p_lent, p_max, p_min, p_abs, p_all3, f_sd, f_w, p_isint, p_isinl, p_isini, p_isinb, p_isins, p_isinn, c_isn, c_isb, c_isi, c_iss, c_ist, c_isl, c_inl, c_int, b_add, b_sub, b_mul, b_mul0, b_mul1, b_w2, b_w3, v_rd_w, v_un_w, c_eqi, c_nei, c_eqs, c_lt, c_le, c_gt, c_ge, s_t, s_l, t_nm, t_tp, t_0, t_1, u_int, u_bl, u_str, u_non, u_tup, u_lst, u_0, u_1, u_s, l_5, l_4, l_3, l_2, l_1, l_0, n_0, n_1, n_2, n_3, n_4, n_5, n_6, n_7, n_8, n_9, n_10, n_11, n_12, m_0, m_1, m_2, m_3, m_4, m_5, m_6, m_7, m_8, m_9, m_10, m_11, m_12, m_13, m_14, m_15, m_16, i_23, eq_nn, eq_bb, eq_ll, beq_self_eq_true, isTy, fin_bl, fin_int, fin_tup, fin_lst, fin_nx, Option.bind_some, Option.map_some, List.map_cons, List.map_nil, List.length_cons, List.length_nil, List.replicate, List.getElem?_cons_zero, List.getElem?_cons_succ, List.set_cons_zero, List.set_cons_succ, List.cons_append, List.nil_append, List.append_nil, Nat.sub_self, List.take_length, Bool.false_eq_true, reduceIte, Bool.and_true, Bool.true_and, Bool.not_true, Bool.not_false, Bool.false_and, Bool.and_false, Nat.reduceSub, List.replicate_succ, List.replicate_zero, Nat.succ_sub_succ, decide_true, decide_false, Int.reduceEq, Int.reduceLT, Int.reduceLE, Int.reduceNeg, Int.reduceGT, gt_iff_lt, ge_iff_le, Bool.and_assoc, List.any_cons, List.any_nil, Bool.or_true, Bool.true_or, Bool.or_false, Bool.false_or]
  · rcases Classical.propComplete (h + m < 0) with o1 | o1
    · rcases Classical.propComplete (h = 0) with z1 | z1 <;> rcases Classical.propComplete (h = lift) with z2 | z2 <;> rcases Classical.propComplete (h = 1) with z3 | z3 <;> cases somebody <;> simp -implicitDefEqProofs only [f_law_tick_x8, f_law_tick_x9, f_law_tick_x10, f_law_tick_x11, f_law_tick_x12, f_law_tick_x13, hm, o1, z1, z2, z3, b_wg hw1, b_w1 hw1, b_w1 hw2, and_self, and_true, true_and, and_false, false_and, Stand.d, r_din, r_din1, r_din2, r_din3, r_pop, r_pop1, r_gt, r_gt1, r_gt2, r_cat, r_cat1, r_cat2, r_cat3, r_sk, r_sk1, r_sk2, r_sk3, r_keys, r_keys1, r_items, r_items1, r_dcm, r_dcm1, r_dcm2, r_dcs, r_dcs1, r_dcs2, r_dcs3, r_dcs4, r_whl, r_dctB, v_rd_ro, r_var, r_glob, r_int, r_bl, r_non, r_str, r_tup, r_tup1, r_lst, r_lst0, r_lst1, r_dct, r_dct1, r_dct2, r_fn, r_bin, r_bin1, r_bin2, r_neg, r_neg1, r_not, r_not1, r_and, r_and1, r_or, r_or1, r_ite, r_ite1, r_kbl, r_cmp, r_cmp1, r_cmp2, r_chain, r_chain1, r_chain2, r_chain3, r_chain4, r_call, r_call1, r_prim, r_prim1, r_primB, r_primB1, r_new, r_sub, r_sub1, r_sub2, r_dsub, r_dsub1, r_dsub2, r_app, r_app1, r_app2, r_get, r_get1, r_get2, r_get3, r_frz, r_frz1, r_es0, r_es, r_es1, r_es2, r_ps0, r_ps, r_ps1, r_ps2, r_ps3, r_o0, r_o, r_o1, r_g0, r_g, r_g1, r_cut, r_cut0, r_cut1, r_cut2, r_comp, r_comp1, r_comp2, r_step, r_step1, r_step2, r_step3, r_walkL0, r_walkL, r_walkL1, r_seq, r_seq1, r_seq2, r_rng1, r_rng1a, r_rng2, r_rng2a, r_rng2b, r_in, r_zip, r_zip1, r_zip2, r_c, r_asg, r_asg1, r_nx, r_set, r_set1, r_set2, r_set3, r_st, r_expr, r_expr1, r_ret, r_ret1, r_if, r_if1, r_pass, r_ss0, r_ss, r_ss1, r_ss2, r_for, r_for1, r_fstep, r_for2, r_walkF0, r_walkF, r_walkF1, r_walkF2, v_rd_int, v_rd_bl, v_rd_str, v_rd_non, v_rd_tup, v_rd_lst, v_rd_dct, v_rR_int, v_rR_bl, v_rR_str, v_rR_non, v_rR_tup, v_rR_lst, v_rR_dct, v_rR_ro, v_rR_box, v_and, v_or, a_0, a_1, a_2, a_3, a_4, p_int, p_inti, p_lenl, p_lent, p_max, p_min, p_abs, p_all3, f_sd, f_w, p_isint, p_isinl, p_isini, p_isinb, p_isins, p_isinn, c_isn, c_isb, c_isi, c_iss, c_ist, c_isl, c_inl, c_int, b_add, b_sub, b_mul, b_mul0, b_mul1, b_w2, b_w3, v_rd_w, v_un_w, c_eqi, c_nei, c_eqs, c_lt, c_le, c_gt, c_ge, s_t, s_l, t_nm, t_tp, t_0, t_1, u_int, u_bl, u_str, u_non, u_tup, u_lst, u_0, u_1, u_s, l_5, l_4, l_3, l_2, l_1, l_0, n_0, n_1, n_2, n_3, n_4, n_5, n_6, n_7, n_8, n_9, n_10, n_11, n_12, m_0, m_1, m_2, m_3, m_4, m_5, m_6, m_7, m_8, m_9, m_10, m_11, m_12, m_13, m_14, m_15, m_16, i_23, eq_nn, eq_bb, eq_ll, beq_self_eq_true, isTy, fin_bl, fin_int, fin_tup, fin_lst, fin_nx, Option.bind_some, Option.map_some, List.map_cons, List.map_nil, List.length_cons, List.length_nil, List.replicate, List.getElem?_cons_zero, List.getElem?_cons_succ, List.set_cons_zero, List.set_cons_succ, List.cons_append, List.nil_append, List.append_nil, Nat.sub_self, List.take_length, Bool.false_eq_true, reduceIte, Bool.and_true, Bool.true_and, Bool.not_true, Bool.not_false, Bool.false_and, Bool.and_false, Nat.reduceSub, List.replicate_succ, List.replicate_zero, Nat.succ_sub_succ, decide_true, decide_false, Int.reduceEq, Int.reduceLT, Int.reduceLE, Int.reduceNeg, Int.reduceGT, gt_iff_lt, ge_iff_le, Bool.and_assoc, List.any_cons, List.any_nil, Bool.or_true, Bool.true_or, Bool.or_false, Bool.false_or]
    · rcases Classical.propComplete (lift < h + m) with o2 | o2
      · rcases Classical.propComplete (h = 0) with z1 | z1 <;> rcases Classical.propComplete (h = lift) with z2 | z2 <;> rcases Classical.propComplete (h = 1) with z3 | z3 <;> cases somebody <;> simp -implicitDefEqProofs only [f_law_tick_x8, f_law_tick_x9, f_law_tick_x10, f_law_tick_x11, f_law_tick_x12, f_law_tick_x13, hm, o1, o2, z1, z2, z3, b_wg hw1, b_w1 hw1, b_w1 hw2, and_self, and_true, true_and, and_false, false_and, Stand.d, r_din, r_din1, r_din2, r_din3, r_pop, r_pop1, r_gt, r_gt1, r_gt2, r_cat, r_cat1, r_cat2, r_cat3, r_sk, r_sk1, r_sk2, r_sk3, r_keys, r_keys1, r_items, r_items1, r_dcm, r_dcm1, r_dcm2, r_dcs, r_dcs1, r_dcs2, r_dcs3, r_dcs4, r_whl, r_dctB, v_rd_ro, r_var, r_glob, r_int, r_bl, r_non, r_str, r_tup, r_tup1, r_lst, r_lst0, r_lst1, r_dct, r_dct1, r_dct2, r_fn, r_bin, r_bin1, r_bin2, r_neg, r_neg1, r_not, r_not1, r_and, r_and1, r_or, r_or1, r_ite, r_ite1, r_kbl, r_cmp, r_cmp1, r_cmp2, r_chain, r_chain1, r_chain2, r_chain3, r_chain4, r_call, r_call1, r_prim, r_prim1, r_primB, r_primB1, r_new, r_sub, r_sub1, r_sub2, r_dsub, r_dsub1, r_dsub2, r_app, r_app1, r_app2, r_get, r_get1, r_get2, r_get3, r_frz, r_frz1, r_es0, r_es, r_es1, r_es2, r_ps0, r_ps, r_ps1, r_ps2, r_ps3, r_o0, r_o, r_o1, r_g0, r_g, r_g1, r_cut, r_cut0, r_cut1, r_cut2, r_comp, r_comp1, r_comp2, r_step, r_step1, r_step2, r_step3, r_walkL0, r_walkL, r_walkL1, r_seq, r_seq1, r_seq2, r_rng1, r_rng1a, r_rng2, r_rng2a, r_rng2b, r_in, r_zip, r_zip1, r_zip2, r_c, r_asg, r_asg1, r_nx, r_set, r_set1, r_set2, r_set3, r_st, r_expr, r_expr1, r_ret, r_ret1, r_if, r_if1, r_pass, r_ss0, r_ss, r_ss1, r_ss2, r_for, r_for1, r_fstep, r_for2, r_walkF0, r_walkF, r_walkF1, r_walkF2, v_rd_int, v_rd_bl, v_rd_str, v_rd_non, v_rd_tup, v_rd_lst, v_rd_dct, v_rR_int, v_rR_bl, v_rR_str, v_rR_non, v_rR_tup, v_rR_lst, v_rR_dct, v_rR_ro, v_rR_box, v_and, v_or, a_0, a_1, a_2, a_3, a_4, p_int, p_inti, p_lenl, p_lent, p_max, p_min, p_abs, p_all3, f_sd, f_w, p_isint, p_isinl, p_isini, p_isinb, p_isins, p_isinn, c_isn, c_isb, c_isi, c_iss, c_ist, c_isl, c_inl, c_int, b_add, b_sub, b_mul, b_mul0, b_mul1, b_w2, b_w3, v_rd_w, v_un_w, c_eqi, c_nei, c_eqs, c_lt, c_le, c_gt, c_ge, s_t, s_l, t_nm, t_tp, t_0, t_1, u_int, u_bl, u_str, u_non, u_tup, u_lst, u_0, u_1, u_s, l_5, l_4, l_3, l_2, l_1, l_0, n_0, n_1, n_2, n_3, n_4, n_5, n_6, n_7, n_8, n_9, n_10, n_11, n_12, m_0, m_1, m_2, m_3, m_4, m_5, m_6, m_7, m_8, m_9, m_10, m_11, m_12, m_13, m_14, m_15, m_16, i_23, eq_nn, eq_bb, eq_ll, beq_self_eq_true, isTy, fin_bl, fin_int, fin_tup, fin_lst, fin_nx, Option.bind_some, Option.map_some, List.map_cons, List.map_nil, List.length_cons, List.length_nil, List.replicate, List.getElem?_cons_zero, List.getElem?_cons_succ, List.set_cons_zero, List.set_cons_succ, List.cons_append, List.nil_append, List.append_nil, Nat.sub_self, List.take_length, Bool.false_eq_true, reduceIte, Bool.and_true, Bool.true_and, Bool.not_true, Bool.not_false, Bool.false_and, Bool.and_false, Nat.reduceSub, List.replicate_succ, List.replicate_zero, Nat.succ_sub_succ, decide_true, decide_false, Int.reduceEq, Int.reduceLT, Int.reduceLE, Int.reduceNeg, Int.reduceGT, gt_iff_lt, ge_iff_le, Bool.and_assoc, List.any_cons, List.any_nil, Bool.or_true, Bool.true_or, Bool.or_false, Bool.false_or]
      · rcases Classical.propComplete (h + m = 0) with z1 | z1 <;> rcases Classical.propComplete (h + m = lift) with z2 | z2 <;> rcases Classical.propComplete (h = 1) with z3 | z3 <;> cases somebody <;> simp -implicitDefEqProofs only [f_law_tick_x8, f_law_tick_x9, f_law_tick_x10, f_law_tick_x11, f_law_tick_x12, f_law_tick_x13, hm, o1, o2, z1, z2, z3, b_wg hw1, b_w1 hw1, b_w1 hw2, and_self, and_true, true_and, and_false, false_and, Stand.d, r_din, r_din1, r_din2, r_din3, r_pop, r_pop1, r_gt, r_gt1, r_gt2, r_cat, r_cat1, r_cat2, r_cat3, r_sk, r_sk1, r_sk2, r_sk3, r_keys, r_keys1, r_items, r_items1, r_dcm, r_dcm1, r_dcm2, r_dcs, r_dcs1, r_dcs2, r_dcs3, r_dcs4, r_whl, r_dctB, v_rd_ro, r_var, r_glob, r_int, r_bl, r_non, r_str, r_tup, r_tup1, r_lst, r_lst0, r_lst1, r_dct, r_dct1, r_dct2, r_fn, r_bin, r_bin1, r_bin2, r_neg, r_neg1, r_not, r_not1, r_and, r_and1, r_or, r_or1, r_ite, r_ite1, r_kbl, r_cmp, r_cmp1, r_cmp2, r_chain, r_chain1, r_chain2, r_chain3, r_chain4, r_call, r_call1, r_prim, r_prim1, r_primB, r_primB1, r_new, r_sub, r_sub1, r_sub2, r_dsub, r_dsub1, r_dsub2, r_app, r_app1, r_app2, r_get, r_get1, r_get2, r_get3, r_frz, r_frz1, r_es0, r_es, r_es1, r_es2, r_ps0, r_ps, r_ps1, r_ps2, r_ps3, r_o0, r_o, r_o1, r_g0, r_g, r_g1, r_cut, r_cut0, r_cut1, r_cut2, r_comp, r_comp1, r_comp2, r_step, r_step1, r_step2, r_step3, r_walkL0, r_walkL, r_walkL1, r_seq, r_seq1, r_seq2, r_rng1, r_rng1a, r_rng2, r_rng2a, r_rng2b, r_in, r_zip, r_zip1, r_zip2, r_c, r_asg, r_asg1, r_nx, r_set, r_set1, r_set2, r_set3, r_st, r_expr, r_expr1, r_ret, r_ret1, r_if, r_if1, r_pass, r_ss0, r_ss, r_ss1, r_ss2, r_for, r_for1, r_fstep, r_for2, r_walkF0, r_walkF, r_walkF1, r_walkF2, v_rd_int, v_rd_bl, v_rd_str, v_rd_non, v_rd_tup, v_rd_lst, v_rd_dct, v_rR_int, v_rR_bl, v_rR_str, v_rR_non, v_rR_tup, v_rR_lst, v_rR_dct, v_rR_ro, v_rR_box, v_and, v_or, a_0, a_1, a_2, a_3, a_4, p_int, p_inti, p_lenl, p_lent, p_max, p_min, p_abs, p_all3, f_sd, f_w, p_isint, p_isinl, p_isini, p_isinb, p_isins, p_isinn, c_isn, c_isb, c_isi, c_iss, c_ist, c_isl, c_inl, c_int, b_add, b_sub, b_mul, b_mul0, b_mul1, b_w2, b_w3, v_rd_w, v_un_w, c_eqi, c_nei, c_eqs, c_lt, c_le, c_gt, c_ge, s_t, s_l, t_nm, t_tp, t_0, t_1, u_int, u_bl, u_str, u_non, u_tup, u_lst, u_0, u_1, u_s, l_5, l_4, l_3, l_2, l_1, l_0, n_0, n_1, n_2, n_3, n_4, n_5, n_6, n_7, n_8, n_9, n_10, n_11, n_12, m_0, m_1, m_2, m_3, m_4, m_5, m_6, m_7, m_8, m_9, m_10, m_11, m_12, m_13, m_14, m_15, m_16, i_23, eq_nn, eq_bb, eq_ll, beq_self_eq_true, isTy, fin_bl, fin_int, fin_tup, fin_lst, fin_nx, Option.bind_some, Option.map_some, List.map_cons, List.map_nil, List.length_cons, List.length_nil, List.replicate, List.getElem?_cons_zero, List.getElem?_cons_succ, List.set_cons_zero, List.set_cons_succ, List.cons_append, List.nil_append, List.append_nil, Nat.sub_self, List.take_length, Bool.false_eq_true, reduceIte, Bool.and_true, Bool.true_and, Bool.not_true, Bool.not_false, Bool.false_and, Bool.and_false, Nat.reduceSub, List.replicate_succ, List.replicate_zero, Nat.succ_sub_succ, decide_true, decide_false, Int.reduceEq, Int.reduceLT, Int.reduceLE, Int.reduceNeg, Int.reduceGT, gt_iff_lt, ge_iff_le, Bool.and_assoc, List.any_cons, List.any_nil, Bool.or_true, Bool.true_or, Bool.or_false, Bool.false_or]
theorem tick_eye (c : Ev.Ctx) (st : Store) (h m l t lift : Int) (somebody starts : Bool) (x1 x2 x3 x4 x5 x6 x7 x9 x10 x11 : Option D) (r : Rs) (eye : Bool) (clock : Int) (w : Wy) (mem : Bool) (l0 t0 m0 : Int) :
    evSs c f_law_tick_7 [x1, x2, x3, x4, some (.int lift), some (.int h), some (.int m), some (.int l), some (.int t), x5, some (.bl somebody), x6, some (.lst []), some (.bl starts), x7, some (.bl eye), x9, x10, x11] st =
      some (.rt (.tup [(lawEye ⟨lift, r, eye, clock, w, mem⟩ ⟨h, m0, l0, t0⟩ m l t starts somebody).1.d, words (lawEye ⟨lift, r, eye, clock, w, mem⟩ ⟨h, m0, l0, t0⟩ m l t starts somebody).2]), st) := by
  have t1 := fun b => tick_tail c st h 1 l t lift [s_turned] somebody b x1 x2 x3 x4 x5 x6 x7 (some (.bl eye)) x9 x10 x11 (by decide) r eye clock w mem l0 t0 m0
  have t2 := tick_tail c st h m l t lift [] somebody starts x1 x2 x3 x4 x5 x6 x7 (some (.bl eye)) x9 x10 x11 (by decide) r eye clock w mem l0 t0 m0
  simp -implicitDefEqProofs only [words, List.map_cons, List.map_nil] at t1 t2
  simp -implicitDefEqProofs only [lawEye, words, f_law_tick_x7]
  rcases Classical.propComplete (m = -1) with z | z <;> cases somebody <;> cases eye <;> simp -implicitDefEqProofs only [z, t1, t2, and_self, and_true, true_and, and_false, false_and, r_din, r_din1, r_din2, r_din3, r_pop, r_pop1, r_gt, r_gt1, r_gt2, r_cat, r_cat1, r_cat2, r_cat3, r_sk, r_sk1, r_sk2, r_sk3, r_keys, r_keys1, r_items, r_items1, r_dcm, r_dcm1, r_dcm2, r_dcs, r_dcs1, r_dcs2, r_dcs3, r_dcs4, r_whl, r_dctB, v_rd_ro, r_var, r_glob, r_int, r_bl, r_non, r_str, r_tup, r_tup1, r_lst, r_lst0, r_lst1, r_dct, r_dct1, r_dct2, r_fn, r_bin, r_bin1, r_bin2, r_neg, r_neg1, r_not, r_not1, r_and, r_and1, r_or, r_or1, r_ite, r_ite1, r_kbl, r_cmp, r_cmp1, r_cmp2, r_chain, r_chain1, r_chain2, r_chain3, r_chain4, r_call, r_call1, r_prim, r_prim1, r_primB, r_primB1, r_new, r_sub, r_sub1, r_sub2, r_dsub, r_dsub1, r_dsub2, r_app, r_app1, r_app2, r_get, r_get1, r_get2, r_get3, r_frz, r_frz1, r_es0, r_es, r_es1, r_es2, r_ps0, r_ps, r_ps1, r_ps2, r_ps3, r_o0, r_o, r_o1, r_g0, r_g, r_g1, r_cut, r_cut0, r_cut1, r_cut2, r_comp, r_comp1, r_comp2, r_step, r_step1, r_step2, r_step3, r_walkL0, r_walkL, r_walkL1, r_seq, r_seq1, r_seq2, r_rng1, r_rng1a, r_rng2, r_rng2a, r_rng2b, r_in, r_zip, r_zip1, r_zip2, r_c, r_asg, r_asg1, r_nx, r_set, r_set1, r_set2, r_set3, r_st, r_expr, r_expr1, r_ret, r_ret1, r_if, r_if1, r_pass, r_ss0, r_ss, r_ss1, r_ss2, r_for, r_for1, r_fstep, r_for2, r_walkF0, r_walkF, r_walkF1, r_walkF2, v_rd_int, v_rd_bl, v_rd_str, v_rd_non, v_rd_tup, v_rd_lst, v_rd_dct, v_rR_int, v_rR_bl, v_rR_str, v_rR_non, v_rR_tup, v_rR_lst, v_rR_dct, v_rR_ro, v_rR_box, v_and, v_or, a_0, a_1, a_2, a_3, a_4, p_int, p_inti, p_lenl, p_lent, p_max, p_min, p_abs, p_all3, f_sd, f_w, p_isint, p_isinl, p_isini, p_isinb, p_isins, p_isinn, c_isn, c_isb, c_isi, c_iss, c_ist, c_isl, c_inl, c_int, b_add, b_sub, b_mul, b_mul0, b_mul1, b_w2, b_w3, v_rd_w, v_un_w, c_eqi, c_nei, c_eqs, c_lt, c_le, c_gt, c_ge, s_t, s_l, t_nm, t_tp, t_0, t_1, u_int, u_bl, u_str, u_non, u_tup, u_lst, u_0, u_1, u_s, l_5, l_4, l_3, l_2, l_1, l_0, n_0, n_1, n_2, n_3, n_4, n_5, n_6, n_7, n_8, n_9, n_10, n_11, n_12, m_0, m_1, m_2, m_3, m_4, m_5, m_6, m_7, m_8, m_9, m_10, m_11, m_12, m_13, m_14, m_15, m_16, i_23, eq_nn, eq_bb, eq_ll, beq_self_eq_true, isTy, fin_bl, fin_int, fin_tup, fin_lst, fin_nx, Option.bind_some, Option.map_some, List.map_cons, List.map_nil, List.length_cons, List.length_nil, List.replicate, List.getElem?_cons_zero, List.getElem?_cons_succ, List.set_cons_zero, List.set_cons_succ, List.cons_append, List.nil_append, List.append_nil, Nat.sub_self, List.take_length, Bool.false_eq_true, reduceIte, Bool.and_true, Bool.true_and, Bool.not_true, Bool.not_false, Bool.false_and, Bool.and_false, Nat.reduceSub, List.replicate_succ, List.replicate_zero, Nat.succ_sub_succ, decide_true, decide_false, Int.reduceEq, Int.reduceLT, Int.reduceLE, Int.reduceNeg, Int.reduceGT, gt_iff_lt, ge_iff_le, Bool.and_assoc, List.any_cons, List.any_nil, Bool.or_true, Bool.true_or, Bool.or_false, Bool.false_or]
theorem ev_tick_cut (fuel k : Nat) (lift : Int) (r : Rs) (eye : Bool) (clock : Int) (w : Wy) (mem : Bool) (h m l t : Int) (press stands : Bool) (st : Store) : evCall T fuel (k + 2) 24 [(⟨lift, r, eye, clock, w, mem⟩ : Plan).d, (⟨h, m, l, t⟩ : Stand).d, (⟨press, stands, true⟩ : Choice).d] st = some (.tup [(tick ⟨lift, r, eye, clock, w, mem⟩ ⟨h, m, l, t⟩ ⟨press, stands, true⟩).1.d, words (tick ⟨lift, r, eye, clock, w, mem⟩ ⟨h, m, l, t⟩ ⟨press, stands, true⟩).2], st) := by
  have e1 : evCall T fuel (k + 1) 23 [(⟨lift, r, eye, clock, w, mem⟩ : Plan).d, (⟨h, m, l, t⟩ : Stand).d] st = some (.int (stop r m), st) := ev_stop fuel k _ _ st
  rw [call_eq (fn := f_law_tick) rfl rfl]
  simp -implicitDefEqProofs only [Plan.d, Plan.pd, Stand.d] at e1
  rcases Classical.propComplete (m = 0) with z1 | z1 <;> cases mem <;> simp -implicitDefEqProofs only [and_self, f_law_tick, f_law_tick_x0, f_law_tick_x1, f_law_tick_x2, f_law_tick_x3, f_law_tick_x4, f_law_tick_x5, f_law_tick_x6, Plan.d, Plan.pd, Stand.d, Choice.d, tick, w_0, e1, z1, and_self, and_true, true_and, and_false, false_and, not_true, not_false_eq_true, r_din, r_din1, r_din2, r_din3, r_pop, r_pop1, r_gt, r_gt1, r_gt2, r_cat, r_cat1, r_cat2, r_cat3, r_sk, r_sk1, r_sk2, r_sk3, r_keys, r_keys1, r_items, r_items1, r_dcm, r_dcm1, r_dcm2, r_dcs, r_dcs1, r_dcs2, r_dcs3, r_dcs4, r_whl, r_dctB, v_rd_ro, r_var, r_glob, r_int, r_bl, r_non, r_str, r_tup, r_tup1, r_lst, r_lst0, r_lst1, r_dct, r_dct1, r_dct2, r_fn, r_bin, r_bin1, r_bin2, r_neg, r_neg1, r_not, r_not1, r_and, r_and1, r_or, r_or1, r_ite, r_ite1, r_kbl, r_cmp, r_cmp1, r_cmp2, r_chain, r_chain1, r_chain2, r_chain3, r_chain4, r_call, r_call1, r_prim, r_prim1, r_primB, r_primB1, r_new, r_sub, r_sub1, r_sub2, r_dsub, r_dsub1, r_dsub2, r_app, r_app1, r_app2, r_get, r_get1, r_get2, r_get3, r_frz, r_frz1, r_es0, r_es, r_es1, r_es2, r_ps0, r_ps, r_ps1, r_ps2, r_ps3, r_o0, r_o, r_o1, r_g0, r_g, r_g1, r_cut, r_cut0, r_cut1, r_cut2, r_comp, r_comp1, r_comp2, r_step, r_step1, r_step2, r_step3, r_walkL0, r_walkL, r_walkL1, r_seq, r_seq1, r_seq2, r_rng1, r_rng1a, r_rng2, r_rng2a, r_rng2b, r_in, r_zip, r_zip1, r_zip2, r_c, r_asg, r_asg1, r_nx, r_set, r_set1, r_set2, r_set3, r_st, r_expr, r_expr1, r_ret, r_ret1, r_if, r_if1, r_pass, r_ss0, r_ss, r_ss1, r_ss2, r_for, r_for1, r_fstep, r_for2, r_walkF0, r_walkF, r_walkF1, r_walkF2, v_rd_int, v_rd_bl, v_rd_str, v_rd_non, v_rd_tup, v_rd_lst, v_rd_dct, v_rR_int, v_rR_bl, v_rR_str, v_rR_non, v_rR_tup, v_rR_lst, v_rR_dct, v_rR_ro, v_rR_box, v_and, v_or, a_0, a_1, a_2, a_3, a_4, p_int, p_inti, p_lenl, p_lent, p_max, p_min, p_abs, p_all3, f_sd, f_w, p_isint, p_isinl, p_isini, p_isinb, p_isins, p_isinn, c_isn, c_isb, c_isi, c_iss, c_ist, c_isl, c_inl, c_int, b_add, b_sub, b_mul, b_mul0, b_mul1, b_w2, b_w3, v_rd_w, v_un_w, c_eqi, c_nei, c_eqs, c_lt, c_le, c_gt, c_ge, s_t, s_l, t_nm, t_tp, t_0, t_1, u_int, u_bl, u_str, u_non, u_tup, u_lst, u_0, u_1, u_s, l_5, l_4, l_3, l_2, l_1, l_0, n_0, n_1, n_2, n_3, n_4, n_5, n_6, n_7, n_8, n_9, n_10, n_11, n_12, m_0, m_1, m_2, m_3, m_4, m_5, m_6, m_7, m_8, m_9, m_10, m_11, m_12, m_13, m_14, m_15, m_16, i_23, eq_nn, eq_bb, eq_ll, beq_self_eq_true, isTy, fin_bl, fin_int, fin_tup, fin_lst, fin_nx, Option.bind_some, Option.map_some, List.map_cons, List.map_nil, List.length_cons, List.length_nil, List.replicate, List.getElem?_cons_zero, List.getElem?_cons_succ, List.set_cons_zero, List.set_cons_succ, List.cons_append, List.nil_append, List.append_nil, Nat.sub_self, List.take_length, Bool.false_eq_true, reduceIte, Bool.and_true, Bool.true_and, Bool.not_true, Bool.not_false, Bool.false_and, Bool.and_false, Nat.reduceSub, List.replicate_succ, List.replicate_zero, Nat.succ_sub_succ, decide_true, decide_false, Int.reduceEq, Int.reduceLT, Int.reduceLE, Int.reduceNeg, Int.reduceGT, gt_iff_lt, ge_iff_le, Bool.and_assoc, List.any_cons, List.any_nil, Bool.or_true, Bool.true_or, Bool.or_false, Bool.false_or]
theorem ev_tick_go (fuel k : Nat) (lift : Int) (r : Rs) (eye : Bool) (clock : Int) (w : Wy) (mem : Bool) (h m l t : Int) (press stands : Bool) (st : Store) (hm : ¬ m = 0) : evCall T fuel (k + 2) 24 [(⟨lift, r, eye, clock, w, mem⟩ : Plan).d, (⟨h, m, l, t⟩ : Stand).d, (⟨press, stands, false⟩ : Choice).d] st = some (.tup [(tick ⟨lift, r, eye, clock, w, mem⟩ ⟨h, m, l, t⟩ ⟨press, stands, false⟩).1.d, words (tick ⟨lift, r, eye, clock, w, mem⟩ ⟨h, m, l, t⟩ ⟨press, stands, false⟩).2], st) := by
  have e1 : evCall T fuel (k + 1) 23 [(⟨lift, r, eye, clock, w, mem⟩ : Plan).d, (⟨h, m, l, t⟩ : Stand).d] st = some (.int (stop r m), st) := ev_stop fuel k _ _ st
  rw [call_eq (fn := f_law_tick) rfl rfl]
  simp -implicitDefEqProofs only [Plan.d, Plan.pd, Stand.d] at e1
  have te := fun (m' l' t' : Int) (b : Bool) (x1 x2 x3 x4 x5 x6 x7 x9 x10 x11 : Option D) => tick_eye ⟨evCall T fuel (k + 1), st.length, fuel⟩ st h m' l' t' lift stands b x1 x2 x3 x4 x5 x6 x7 x9 x10 x11 r eye clock w mem l t m
  cases press <;> simp -implicitDefEqProofs only [and_self, f_law_tick, f_law_tick_x0, f_law_tick_x1, f_law_tick_x2, f_law_tick_x3, f_law_tick_x4, f_law_tick_x5, f_law_tick_x6, Plan.d, Plan.pd, Stand.d, Choice.d, tick, w_0, e1, hm, te, and_self, and_true, true_and, and_false, false_and, not_true, not_false_eq_true, r_din, r_din1, r_din2, r_din3, r_pop, r_pop1, r_gt, r_gt1, r_gt2, r_cat, r_cat1, r_cat2, r_cat3, r_sk, r_sk1, r_sk2, r_sk3, r_keys, r_keys1, r_items, r_items1, r_dcm, r_dcm1, r_dcm2, r_dcs, r_dcs1, r_dcs2, r_dcs3, r_dcs4, r_whl, r_dctB, v_rd_ro, r_var, r_glob, r_int, r_bl, r_non, r_str, r_tup, r_tup1, r_lst, r_lst0, r_lst1, r_dct, r_dct1, r_dct2, r_fn, r_bin, r_bin1, r_bin2, r_neg, r_neg1, r_not, r_not1, r_and, r_and1, r_or, r_or1, r_ite, r_ite1, r_kbl, r_cmp, r_cmp1, r_cmp2, r_chain, r_chain1, r_chain2, r_chain3, r_chain4, r_call, r_call1, r_prim, r_prim1, r_primB, r_primB1, r_new, r_sub, r_sub1, r_sub2, r_dsub, r_dsub1, r_dsub2, r_app, r_app1, r_app2, r_get, r_get1, r_get2, r_get3, r_frz, r_frz1, r_es0, r_es, r_es1, r_es2, r_ps0, r_ps, r_ps1, r_ps2, r_ps3, r_o0, r_o, r_o1, r_g0, r_g, r_g1, r_cut, r_cut0, r_cut1, r_cut2, r_comp, r_comp1, r_comp2, r_step, r_step1, r_step2, r_step3, r_walkL0, r_walkL, r_walkL1, r_seq, r_seq1, r_seq2, r_rng1, r_rng1a, r_rng2, r_rng2a, r_rng2b, r_in, r_zip, r_zip1, r_zip2, r_c, r_asg, r_asg1, r_nx, r_set, r_set1, r_set2, r_set3, r_st, r_expr, r_expr1, r_ret, r_ret1, r_if, r_if1, r_pass, r_ss0, r_ss, r_ss1, r_ss2, r_for, r_for1, r_fstep, r_for2, r_walkF0, r_walkF, r_walkF1, r_walkF2, v_rd_int, v_rd_bl, v_rd_str, v_rd_non, v_rd_tup, v_rd_lst, v_rd_dct, v_rR_int, v_rR_bl, v_rR_str, v_rR_non, v_rR_tup, v_rR_lst, v_rR_dct, v_rR_ro, v_rR_box, v_and, v_or, a_0, a_1, a_2, a_3, a_4, p_int, p_inti, p_lenl, p_lent, p_max, p_min, p_abs, p_all3, f_sd, f_w, p_isint, p_isinl, p_isini, p_isinb, p_isins, p_isinn, c_isn, c_isb, c_isi, c_iss, c_ist, c_isl, c_inl, c_int, b_add, b_sub, b_mul, b_mul0, b_mul1, b_w2, b_w3, v_rd_w, v_un_w, c_eqi, c_nei, c_eqs, c_lt, c_le, c_gt, c_ge, s_t, s_l, t_nm, t_tp, t_0, t_1, u_int, u_bl, u_str, u_non, u_tup, u_lst, u_0, u_1, u_s, l_5, l_4, l_3, l_2, l_1, l_0, n_0, n_1, n_2, n_3, n_4, n_5, n_6, n_7, n_8, n_9, n_10, n_11, n_12, m_0, m_1, m_2, m_3, m_4, m_5, m_6, m_7, m_8, m_9, m_10, m_11, m_12, m_13, m_14, m_15, m_16, i_23, eq_nn, eq_bb, eq_ll, beq_self_eq_true, isTy, fin_bl, fin_int, fin_tup, fin_lst, fin_nx, Option.bind_some, Option.map_some, List.map_cons, List.map_nil, List.length_cons, List.length_nil, List.replicate, List.getElem?_cons_zero, List.getElem?_cons_succ, List.set_cons_zero, List.set_cons_succ, List.cons_append, List.nil_append, List.append_nil, Nat.sub_self, List.take_length, Bool.false_eq_true, reduceIte, Bool.and_true, Bool.true_and, Bool.not_true, Bool.not_false, Bool.false_and, Bool.and_false, Nat.reduceSub, List.replicate_succ, List.replicate_zero, Nat.succ_sub_succ, decide_true, decide_false, Int.reduceEq, Int.reduceLT, Int.reduceLE, Int.reduceNeg, Int.reduceGT, gt_iff_lt, ge_iff_le, Bool.and_assoc, List.any_cons, List.any_nil, Bool.or_true, Bool.true_or, Bool.or_false, Bool.false_or]
theorem ev_tick_st (fuel k : Nat) (lift : Int) (r : Rs) (eye : Bool) (clock : Int) (w : Wy) (mem : Bool) (h m l t : Int) (stands : Bool) (st : Store) (hm : m = 0) : evCall T fuel (k + 2) 24 [(⟨lift, r, eye, clock, w, mem⟩ : Plan).d, (⟨h, m, l, t⟩ : Stand).d, (⟨true, stands, false⟩ : Choice).d] st = some (.tup [(tick ⟨lift, r, eye, clock, w, mem⟩ ⟨h, m, l, t⟩ ⟨true, stands, false⟩).1.d, words (tick ⟨lift, r, eye, clock, w, mem⟩ ⟨h, m, l, t⟩ ⟨true, stands, false⟩).2], st) := by
  have e1 : evCall T fuel (k + 1) 23 [(⟨lift, r, eye, clock, w, mem⟩ : Plan).d, (⟨h, m, l, t⟩ : Stand).d] st = some (.int (stop r m), st) := ev_stop fuel k _ _ st
  rw [call_eq (fn := f_law_tick) rfl rfl]
  simp -implicitDefEqProofs only [Plan.d, Plan.pd, Stand.d] at e1
  have te := fun (m' l' t' : Int) (b : Bool) (x1 x2 x3 x4 x5 x6 x7 x9 x10 x11 : Option D) => tick_eye ⟨evCall T fuel (k + 1), st.length, fuel⟩ st h m' l' t' lift stands b x1 x2 x3 x4 x5 x6 x7 x9 x10 x11 r eye clock w mem l t m
  simp -implicitDefEqProofs only [and_self, f_law_tick, f_law_tick_x0, f_law_tick_x1, f_law_tick_x2, f_law_tick_x3, f_law_tick_x4, f_law_tick_x5, f_law_tick_x6, Plan.d, Plan.pd, Stand.d, Choice.d, tick, w_0, e1, hm, te, and_self, and_true, true_and, and_false, false_and, not_true, not_false_eq_true, r_din, r_din1, r_din2, r_din3, r_pop, r_pop1, r_gt, r_gt1, r_gt2, r_cat, r_cat1, r_cat2, r_cat3, r_sk, r_sk1, r_sk2, r_sk3, r_keys, r_keys1, r_items, r_items1, r_dcm, r_dcm1, r_dcm2, r_dcs, r_dcs1, r_dcs2, r_dcs3, r_dcs4, r_whl, r_dctB, v_rd_ro, r_var, r_glob, r_int, r_bl, r_non, r_str, r_tup, r_tup1, r_lst, r_lst0, r_lst1, r_dct, r_dct1, r_dct2, r_fn, r_bin, r_bin1, r_bin2, r_neg, r_neg1, r_not, r_not1, r_and, r_and1, r_or, r_or1, r_ite, r_ite1, r_kbl, r_cmp, r_cmp1, r_cmp2, r_chain, r_chain1, r_chain2, r_chain3, r_chain4, r_call, r_call1, r_prim, r_prim1, r_primB, r_primB1, r_new, r_sub, r_sub1, r_sub2, r_dsub, r_dsub1, r_dsub2, r_app, r_app1, r_app2, r_get, r_get1, r_get2, r_get3, r_frz, r_frz1, r_es0, r_es, r_es1, r_es2, r_ps0, r_ps, r_ps1, r_ps2, r_ps3, r_o0, r_o, r_o1, r_g0, r_g, r_g1, r_cut, r_cut0, r_cut1, r_cut2, r_comp, r_comp1, r_comp2, r_step, r_step1, r_step2, r_step3, r_walkL0, r_walkL, r_walkL1, r_seq, r_seq1, r_seq2, r_rng1, r_rng1a, r_rng2, r_rng2a, r_rng2b, r_in, r_zip, r_zip1, r_zip2, r_c, r_asg, r_asg1, r_nx, r_set, r_set1, r_set2, r_set3, r_st, r_expr, r_expr1, r_ret, r_ret1, r_if, r_if1, r_pass, r_ss0, r_ss, r_ss1, r_ss2, r_for, r_for1, r_fstep, r_for2, r_walkF0, r_walkF, r_walkF1, r_walkF2, v_rd_int, v_rd_bl, v_rd_str, v_rd_non, v_rd_tup, v_rd_lst, v_rd_dct, v_rR_int, v_rR_bl, v_rR_str, v_rR_non, v_rR_tup, v_rR_lst, v_rR_dct, v_rR_ro, v_rR_box, v_and, v_or, a_0, a_1, a_2, a_3, a_4, p_int, p_inti, p_lenl, p_lent, p_max, p_min, p_abs, p_all3, f_sd, f_w, p_isint, p_isinl, p_isini, p_isinb, p_isins, p_isinn, c_isn, c_isb, c_isi, c_iss, c_ist, c_isl, c_inl, c_int, b_add, b_sub, b_mul, b_mul0, b_mul1, b_w2, b_w3, v_rd_w, v_un_w, c_eqi, c_nei, c_eqs, c_lt, c_le, c_gt, c_ge, s_t, s_l, t_nm, t_tp, t_0, t_1, u_int, u_bl, u_str, u_non, u_tup, u_lst, u_0, u_1, u_s, l_5, l_4, l_3, l_2, l_1, l_0, n_0, n_1, n_2, n_3, n_4, n_5, n_6, n_7, n_8, n_9, n_10, n_11, n_12, m_0, m_1, m_2, m_3, m_4, m_5, m_6, m_7, m_8, m_9, m_10, m_11, m_12, m_13, m_14, m_15, m_16, i_23, eq_nn, eq_bb, eq_ll, beq_self_eq_true, isTy, fin_bl, fin_int, fin_tup, fin_lst, fin_nx, Option.bind_some, Option.map_some, List.map_cons, List.map_nil, List.length_cons, List.length_nil, List.replicate, List.getElem?_cons_zero, List.getElem?_cons_succ, List.set_cons_zero, List.set_cons_succ, List.cons_append, List.nil_append, List.append_nil, Nat.sub_self, List.take_length, Bool.false_eq_true, reduceIte, Bool.and_true, Bool.true_and, Bool.not_true, Bool.not_false, Bool.false_and, Bool.and_false, Nat.reduceSub, List.replicate_succ, List.replicate_zero, Nat.succ_sub_succ, decide_true, decide_false, Int.reduceEq, Int.reduceLT, Int.reduceLE, Int.reduceNeg, Int.reduceGT, gt_iff_lt, ge_iff_le, Bool.and_assoc, List.any_cons, List.any_nil, Bool.or_true, Bool.true_or, Bool.or_false, Bool.false_or]
theorem ev_tick_cl (fuel k : Nat) (lift : Int) (r : Rs) (eye : Bool) (clock : Int) (w : Wy) (mem : Bool) (h m l t : Int) (stands : Bool) (st : Store) (hm : m = 0) : evCall T fuel (k + 2) 24 [(⟨lift, r, eye, clock, w, mem⟩ : Plan).d, (⟨h, m, l, t⟩ : Stand).d, (⟨false, stands, false⟩ : Choice).d] st = some (.tup [(tick ⟨lift, r, eye, clock, w, mem⟩ ⟨h, m, l, t⟩ ⟨false, stands, false⟩).1.d, words (tick ⟨lift, r, eye, clock, w, mem⟩ ⟨h, m, l, t⟩ ⟨false, stands, false⟩).2], st) := by
  have e1 : evCall T fuel (k + 1) 23 [(⟨lift, r, eye, clock, w, mem⟩ : Plan).d, (⟨h, m, l, t⟩ : Stand).d] st = some (.int (stop r m), st) := ev_stop fuel k _ _ st
  rw [call_eq (fn := f_law_tick) rfl rfl]
  simp -implicitDefEqProofs only [Plan.d, Plan.pd, Stand.d] at e1
  have te := fun (m' l' t' : Int) (b : Bool) (x1 x2 x3 x4 x5 x6 x7 x9 x10 x11 : Option D) => tick_eye ⟨evCall T fuel (k + 1), st.length, fuel⟩ st h m' l' t' lift stands b x1 x2 x3 x4 x5 x6 x7 x9 x10 x11 r eye clock w mem l t m
  rcases Classical.propComplete (h = lift) with z2 | z2 <;> rcases Classical.propComplete (0 < clock) with z3 | z3 <;> rcases Classical.propComplete (t + 1 = clock) with z4 | z4 <;> simp -implicitDefEqProofs only [and_self, f_law_tick, f_law_tick_x0, f_law_tick_x1, f_law_tick_x2, f_law_tick_x3, f_law_tick_x4, f_law_tick_x5, f_law_tick_x6, Plan.d, Plan.pd, Stand.d, Choice.d, tick, w_0, e1, hm, z2, z3, z4, te, and_self, and_true, true_and, and_false, false_and, not_true, not_false_eq_true, r_din, r_din1, r_din2, r_din3, r_pop, r_pop1, r_gt, r_gt1, r_gt2, r_cat, r_cat1, r_cat2, r_cat3, r_sk, r_sk1, r_sk2, r_sk3, r_keys, r_keys1, r_items, r_items1, r_dcm, r_dcm1, r_dcm2, r_dcs, r_dcs1, r_dcs2, r_dcs3, r_dcs4, r_whl, r_dctB, v_rd_ro, r_var, r_glob, r_int, r_bl, r_non, r_str, r_tup, r_tup1, r_lst, r_lst0, r_lst1, r_dct, r_dct1, r_dct2, r_fn, r_bin, r_bin1, r_bin2, r_neg, r_neg1, r_not, r_not1, r_and, r_and1, r_or, r_or1, r_ite, r_ite1, r_kbl, r_cmp, r_cmp1, r_cmp2, r_chain, r_chain1, r_chain2, r_chain3, r_chain4, r_call, r_call1, r_prim, r_prim1, r_primB, r_primB1, r_new, r_sub, r_sub1, r_sub2, r_dsub, r_dsub1, r_dsub2, r_app, r_app1, r_app2, r_get, r_get1, r_get2, r_get3, r_frz, r_frz1, r_es0, r_es, r_es1, r_es2, r_ps0, r_ps, r_ps1, r_ps2, r_ps3, r_o0, r_o, r_o1, r_g0, r_g, r_g1, r_cut, r_cut0, r_cut1, r_cut2, r_comp, r_comp1, r_comp2, r_step, r_step1, r_step2, r_step3, r_walkL0, r_walkL, r_walkL1, r_seq, r_seq1, r_seq2, r_rng1, r_rng1a, r_rng2, r_rng2a, r_rng2b, r_in, r_zip, r_zip1, r_zip2, r_c, r_asg, r_asg1, r_nx, r_set, r_set1, r_set2, r_set3, r_st, r_expr, r_expr1, r_ret, r_ret1, r_if, r_if1, r_pass, r_ss0, r_ss, r_ss1, r_ss2, r_for, r_for1, r_fstep, r_for2, r_walkF0, r_walkF, r_walkF1, r_walkF2, v_rd_int, v_rd_bl, v_rd_str, v_rd_non, v_rd_tup, v_rd_lst, v_rd_dct, v_rR_int, v_rR_bl, v_rR_str, v_rR_non, v_rR_tup, v_rR_lst, v_rR_dct, v_rR_ro, v_rR_box, v_and, v_or, a_0, a_1, a_2, a_3, a_4, p_int, p_inti, p_lenl, p_lent, p_max, p_min, p_abs, p_all3, f_sd, f_w, p_isint, p_isinl, p_isini, p_isinb, p_isins, p_isinn, c_isn, c_isb, c_isi, c_iss, c_ist, c_isl, c_inl, c_int, b_add, b_sub, b_mul, b_mul0, b_mul1, b_w2, b_w3, v_rd_w, v_un_w, c_eqi, c_nei, c_eqs, c_lt, c_le, c_gt, c_ge, s_t, s_l, t_nm, t_tp, t_0, t_1, u_int, u_bl, u_str, u_non, u_tup, u_lst, u_0, u_1, u_s, l_5, l_4, l_3, l_2, l_1, l_0, n_0, n_1, n_2, n_3, n_4, n_5, n_6, n_7, n_8, n_9, n_10, n_11, n_12, m_0, m_1, m_2, m_3, m_4, m_5, m_6, m_7, m_8, m_9, m_10, m_11, m_12, m_13, m_14, m_15, m_16, i_23, eq_nn, eq_bb, eq_ll, beq_self_eq_true, isTy, fin_bl, fin_int, fin_tup, fin_lst, fin_nx, Option.bind_some, Option.map_some, List.map_cons, List.map_nil, List.length_cons, List.length_nil, List.replicate, List.getElem?_cons_zero, List.getElem?_cons_succ, List.set_cons_zero, List.set_cons_succ, List.cons_append, List.nil_append, List.append_nil, Nat.sub_self, List.take_length, Bool.false_eq_true, reduceIte, Bool.and_true, Bool.true_and, Bool.not_true, Bool.not_false, Bool.false_and, Bool.and_false, Nat.reduceSub, List.replicate_succ, List.replicate_zero, Nat.succ_sub_succ, decide_true, decide_false, Int.reduceEq, Int.reduceLT, Int.reduceLE, Int.reduceNeg, Int.reduceGT, gt_iff_lt, ge_iff_le, Bool.and_assoc, List.any_cons, List.any_nil, Bool.or_true, Bool.true_or, Bool.or_false, Bool.false_or]
theorem ev_tick (fuel k : Nat) (p : Plan) (s : Stand) (c : Choice) (st : Store) : evCall T fuel (k + 2) 24 [p.d, s.d, c.d] st = some (.tup [(tick p s c).1.d, words (tick p s c).2], st) := by
  obtain ⟨lift, r, eye, clock, w, mem⟩ := p
  obtain ⟨h, m, l, t⟩ := s
  obtain ⟨press, stands, cut⟩ := c
  cases cut
  · by_cases hm : m = 0
    · cases press
      · exact ev_tick_cl fuel k lift r eye clock w mem h m l t stands st hm
      · exact ev_tick_st fuel k lift r eye clock w mem h m l t stands st hm
    · exact ev_tick_go fuel k lift r eye clock w mem h m l t press stands st hm
  · exact ev_tick_cut fuel k lift r eye clock w mem h m l t press stands st
theorem ev_kind (fuel k : Nat) (d : D) (n : Nat) (hd : D.pl n d = true) (st : Store) : evCall T fuel (k + 1) 18 [d] st = some (.int (kindOf d), st) := by
  rw [call_eq (fn := f_law_kind) rfl rfl]
  cases d with
  | non => simp -implicitDefEqProofs only [f_law_kind, f_law_kind_x0, f_law_kind_x1, f_law_kind_x2, kindOf, r_din, r_din1, r_din2, r_din3, r_pop, r_pop1, r_gt, r_gt1, r_gt2, r_cat, r_cat1, r_cat2, r_cat3, r_sk, r_sk1, r_sk2, r_sk3, r_keys, r_keys1, r_items, r_items1, r_dcm, r_dcm1, r_dcm2, r_dcs, r_dcs1, r_dcs2, r_dcs3, r_dcs4, r_whl, r_dctB, v_rd_ro, r_var, r_glob, r_int, r_bl, r_non, r_str, r_tup, r_tup1, r_lst, r_lst0, r_lst1, r_dct, r_dct1, r_dct2, r_fn, r_bin, r_bin1, r_bin2, r_neg, r_neg1, r_not, r_not1, r_and, r_and1, r_or, r_or1, r_ite, r_ite1, r_kbl, r_cmp, r_cmp1, r_cmp2, r_chain, r_chain1, r_chain2, r_chain3, r_chain4, r_call, r_call1, r_prim, r_prim1, r_primB, r_primB1, r_new, r_sub, r_sub1, r_sub2, r_dsub, r_dsub1, r_dsub2, r_app, r_app1, r_app2, r_get, r_get1, r_get2, r_get3, r_frz, r_frz1, r_es0, r_es, r_es1, r_es2, r_ps0, r_ps, r_ps1, r_ps2, r_ps3, r_o0, r_o, r_o1, r_g0, r_g, r_g1, r_cut, r_cut0, r_cut1, r_cut2, r_comp, r_comp1, r_comp2, r_step, r_step1, r_step2, r_step3, r_walkL0, r_walkL, r_walkL1, r_seq, r_seq1, r_seq2, r_rng1, r_rng1a, r_rng2, r_rng2a, r_rng2b, r_in, r_zip, r_zip1, r_zip2, r_c, r_asg, r_asg1, r_nx, r_set, r_set1, r_set2, r_set3, r_st, r_expr, r_expr1, r_ret, r_ret1, r_if, r_if1, r_pass, r_ss0, r_ss, r_ss1, r_ss2, r_for, r_for1, r_fstep, r_for2, r_walkF0, r_walkF, r_walkF1, r_walkF2, v_rd_int, v_rd_bl, v_rd_str, v_rd_non, v_rd_tup, v_rd_lst, v_rd_dct, v_rR_int, v_rR_bl, v_rR_str, v_rR_non, v_rR_tup, v_rR_lst, v_rR_dct, v_rR_ro, v_rR_box, v_and, v_or, a_0, a_1, a_2, a_3, a_4, p_int, p_inti, p_lenl, p_lent, p_max, p_min, p_abs, p_all3, f_sd, f_w, p_isint, p_isinl, p_isini, p_isinb, p_isins, p_isinn, c_isn, c_isb, c_isi, c_iss, c_ist, c_isl, c_inl, c_int, b_add, b_sub, b_mul, b_mul0, b_mul1, b_w2, b_w3, v_rd_w, v_un_w, c_eqi, c_nei, c_eqs, c_lt, c_le, c_gt, c_ge, s_t, s_l, t_nm, t_tp, t_0, t_1, u_int, u_bl, u_str, u_non, u_tup, u_lst, u_0, u_1, u_s, l_5, l_4, l_3, l_2, l_1, l_0, n_0, n_1, n_2, n_3, n_4, n_5, n_6, n_7, n_8, n_9, n_10, n_11, n_12, m_0, m_1, m_2, m_3, m_4, m_5, m_6, m_7, m_8, m_9, m_10, m_11, m_12, m_13, m_14, m_15, m_16, i_23, eq_nn, eq_bb, eq_ll, beq_self_eq_true, isTy, fin_bl, fin_int, fin_tup, fin_lst, fin_nx, Option.bind_some, Option.map_some, List.map_cons, List.map_nil, List.length_cons, List.length_nil, List.replicate, List.getElem?_cons_zero, List.getElem?_cons_succ, List.set_cons_zero, List.set_cons_succ, List.cons_append, List.nil_append, List.append_nil, Nat.sub_self, List.take_length, Bool.false_eq_true, reduceIte, Bool.and_true, Bool.true_and, Bool.not_true, Bool.not_false, Bool.false_and, Bool.and_false, Nat.reduceSub, List.replicate_succ, List.replicate_zero, Nat.succ_sub_succ, decide_true, decide_false, Int.reduceEq, Int.reduceLT, Int.reduceLE, Int.reduceNeg, Int.reduceGT, gt_iff_lt, ge_iff_le, Bool.and_assoc, List.any_cons, List.any_nil, Bool.or_true, Bool.true_or, Bool.or_false, Bool.false_or]
  | bl b => simp -implicitDefEqProofs only [f_law_kind, f_law_kind_x0, f_law_kind_x1, f_law_kind_x2, kindOf, r_din, r_din1, r_din2, r_din3, r_pop, r_pop1, r_gt, r_gt1, r_gt2, r_cat, r_cat1, r_cat2, r_cat3, r_sk, r_sk1, r_sk2, r_sk3, r_keys, r_keys1, r_items, r_items1, r_dcm, r_dcm1, r_dcm2, r_dcs, r_dcs1, r_dcs2, r_dcs3, r_dcs4, r_whl, r_dctB, v_rd_ro, r_var, r_glob, r_int, r_bl, r_non, r_str, r_tup, r_tup1, r_lst, r_lst0, r_lst1, r_dct, r_dct1, r_dct2, r_fn, r_bin, r_bin1, r_bin2, r_neg, r_neg1, r_not, r_not1, r_and, r_and1, r_or, r_or1, r_ite, r_ite1, r_kbl, r_cmp, r_cmp1, r_cmp2, r_chain, r_chain1, r_chain2, r_chain3, r_chain4, r_call, r_call1, r_prim, r_prim1, r_primB, r_primB1, r_new, r_sub, r_sub1, r_sub2, r_dsub, r_dsub1, r_dsub2, r_app, r_app1, r_app2, r_get, r_get1, r_get2, r_get3, r_frz, r_frz1, r_es0, r_es, r_es1, r_es2, r_ps0, r_ps, r_ps1, r_ps2, r_ps3, r_o0, r_o, r_o1, r_g0, r_g, r_g1, r_cut, r_cut0, r_cut1, r_cut2, r_comp, r_comp1, r_comp2, r_step, r_step1, r_step2, r_step3, r_walkL0, r_walkL, r_walkL1, r_seq, r_seq1, r_seq2, r_rng1, r_rng1a, r_rng2, r_rng2a, r_rng2b, r_in, r_zip, r_zip1, r_zip2, r_c, r_asg, r_asg1, r_nx, r_set, r_set1, r_set2, r_set3, r_st, r_expr, r_expr1, r_ret, r_ret1, r_if, r_if1, r_pass, r_ss0, r_ss, r_ss1, r_ss2, r_for, r_for1, r_fstep, r_for2, r_walkF0, r_walkF, r_walkF1, r_walkF2, v_rd_int, v_rd_bl, v_rd_str, v_rd_non, v_rd_tup, v_rd_lst, v_rd_dct, v_rR_int, v_rR_bl, v_rR_str, v_rR_non, v_rR_tup, v_rR_lst, v_rR_dct, v_rR_ro, v_rR_box, v_and, v_or, a_0, a_1, a_2, a_3, a_4, p_int, p_inti, p_lenl, p_lent, p_max, p_min, p_abs, p_all3, f_sd, f_w, p_isint, p_isinl, p_isini, p_isinb, p_isins, p_isinn, c_isn, c_isb, c_isi, c_iss, c_ist, c_isl, c_inl, c_int, b_add, b_sub, b_mul, b_mul0, b_mul1, b_w2, b_w3, v_rd_w, v_un_w, c_eqi, c_nei, c_eqs, c_lt, c_le, c_gt, c_ge, s_t, s_l, t_nm, t_tp, t_0, t_1, u_int, u_bl, u_str, u_non, u_tup, u_lst, u_0, u_1, u_s, l_5, l_4, l_3, l_2, l_1, l_0, n_0, n_1, n_2, n_3, n_4, n_5, n_6, n_7, n_8, n_9, n_10, n_11, n_12, m_0, m_1, m_2, m_3, m_4, m_5, m_6, m_7, m_8, m_9, m_10, m_11, m_12, m_13, m_14, m_15, m_16, i_23, eq_nn, eq_bb, eq_ll, beq_self_eq_true, isTy, fin_bl, fin_int, fin_tup, fin_lst, fin_nx, Option.bind_some, Option.map_some, List.map_cons, List.map_nil, List.length_cons, List.length_nil, List.replicate, List.getElem?_cons_zero, List.getElem?_cons_succ, List.set_cons_zero, List.set_cons_succ, List.cons_append, List.nil_append, List.append_nil, Nat.sub_self, List.take_length, Bool.false_eq_true, reduceIte, Bool.and_true, Bool.true_and, Bool.not_true, Bool.not_false, Bool.false_and, Bool.and_false, Nat.reduceSub, List.replicate_succ, List.replicate_zero, Nat.succ_sub_succ, decide_true, decide_false, Int.reduceEq, Int.reduceLT, Int.reduceLE, Int.reduceNeg, Int.reduceGT, gt_iff_lt, ge_iff_le, Bool.and_assoc, List.any_cons, List.any_nil, Bool.or_true, Bool.true_or, Bool.or_false, Bool.false_or]
  | int i => simp -implicitDefEqProofs only [f_law_kind, f_law_kind_x0, f_law_kind_x1, f_law_kind_x2, kindOf, r_din, r_din1, r_din2, r_din3, r_pop, r_pop1, r_gt, r_gt1, r_gt2, r_cat, r_cat1, r_cat2, r_cat3, r_sk, r_sk1, r_sk2, r_sk3, r_keys, r_keys1, r_items, r_items1, r_dcm, r_dcm1, r_dcm2, r_dcs, r_dcs1, r_dcs2, r_dcs3, r_dcs4, r_whl, r_dctB, v_rd_ro, r_var, r_glob, r_int, r_bl, r_non, r_str, r_tup, r_tup1, r_lst, r_lst0, r_lst1, r_dct, r_dct1, r_dct2, r_fn, r_bin, r_bin1, r_bin2, r_neg, r_neg1, r_not, r_not1, r_and, r_and1, r_or, r_or1, r_ite, r_ite1, r_kbl, r_cmp, r_cmp1, r_cmp2, r_chain, r_chain1, r_chain2, r_chain3, r_chain4, r_call, r_call1, r_prim, r_prim1, r_primB, r_primB1, r_new, r_sub, r_sub1, r_sub2, r_dsub, r_dsub1, r_dsub2, r_app, r_app1, r_app2, r_get, r_get1, r_get2, r_get3, r_frz, r_frz1, r_es0, r_es, r_es1, r_es2, r_ps0, r_ps, r_ps1, r_ps2, r_ps3, r_o0, r_o, r_o1, r_g0, r_g, r_g1, r_cut, r_cut0, r_cut1, r_cut2, r_comp, r_comp1, r_comp2, r_step, r_step1, r_step2, r_step3, r_walkL0, r_walkL, r_walkL1, r_seq, r_seq1, r_seq2, r_rng1, r_rng1a, r_rng2, r_rng2a, r_rng2b, r_in, r_zip, r_zip1, r_zip2, r_c, r_asg, r_asg1, r_nx, r_set, r_set1, r_set2, r_set3, r_st, r_expr, r_expr1, r_ret, r_ret1, r_if, r_if1, r_pass, r_ss0, r_ss, r_ss1, r_ss2, r_for, r_for1, r_fstep, r_for2, r_walkF0, r_walkF, r_walkF1, r_walkF2, v_rd_int, v_rd_bl, v_rd_str, v_rd_non, v_rd_tup, v_rd_lst, v_rd_dct, v_rR_int, v_rR_bl, v_rR_str, v_rR_non, v_rR_tup, v_rR_lst, v_rR_dct, v_rR_ro, v_rR_box, v_and, v_or, a_0, a_1, a_2, a_3, a_4, p_int, p_inti, p_lenl, p_lent, p_max, p_min, p_abs, p_all3, f_sd, f_w, p_isint, p_isinl, p_isini, p_isinb, p_isins, p_isinn, c_isn, c_isb, c_isi, c_iss, c_ist, c_isl, c_inl, c_int, b_add, b_sub, b_mul, b_mul0, b_mul1, b_w2, b_w3, v_rd_w, v_un_w, c_eqi, c_nei, c_eqs, c_lt, c_le, c_gt, c_ge, s_t, s_l, t_nm, t_tp, t_0, t_1, u_int, u_bl, u_str, u_non, u_tup, u_lst, u_0, u_1, u_s, l_5, l_4, l_3, l_2, l_1, l_0, n_0, n_1, n_2, n_3, n_4, n_5, n_6, n_7, n_8, n_9, n_10, n_11, n_12, m_0, m_1, m_2, m_3, m_4, m_5, m_6, m_7, m_8, m_9, m_10, m_11, m_12, m_13, m_14, m_15, m_16, i_23, eq_nn, eq_bb, eq_ll, beq_self_eq_true, isTy, fin_bl, fin_int, fin_tup, fin_lst, fin_nx, Option.bind_some, Option.map_some, List.map_cons, List.map_nil, List.length_cons, List.length_nil, List.replicate, List.getElem?_cons_zero, List.getElem?_cons_succ, List.set_cons_zero, List.set_cons_succ, List.cons_append, List.nil_append, List.append_nil, Nat.sub_self, List.take_length, Bool.false_eq_true, reduceIte, Bool.and_true, Bool.true_and, Bool.not_true, Bool.not_false, Bool.false_and, Bool.and_false, Nat.reduceSub, List.replicate_succ, List.replicate_zero, Nat.succ_sub_succ, decide_true, decide_false, Int.reduceEq, Int.reduceLT, Int.reduceLE, Int.reduceNeg, Int.reduceGT, gt_iff_lt, ge_iff_le, Bool.and_assoc, List.any_cons, List.any_nil, Bool.or_true, Bool.true_or, Bool.or_false, Bool.false_or]
  | str x => simp -implicitDefEqProofs only [f_law_kind, f_law_kind_x0, f_law_kind_x1, f_law_kind_x2, kindOf, r_din, r_din1, r_din2, r_din3, r_pop, r_pop1, r_gt, r_gt1, r_gt2, r_cat, r_cat1, r_cat2, r_cat3, r_sk, r_sk1, r_sk2, r_sk3, r_keys, r_keys1, r_items, r_items1, r_dcm, r_dcm1, r_dcm2, r_dcs, r_dcs1, r_dcs2, r_dcs3, r_dcs4, r_whl, r_dctB, v_rd_ro, r_var, r_glob, r_int, r_bl, r_non, r_str, r_tup, r_tup1, r_lst, r_lst0, r_lst1, r_dct, r_dct1, r_dct2, r_fn, r_bin, r_bin1, r_bin2, r_neg, r_neg1, r_not, r_not1, r_and, r_and1, r_or, r_or1, r_ite, r_ite1, r_kbl, r_cmp, r_cmp1, r_cmp2, r_chain, r_chain1, r_chain2, r_chain3, r_chain4, r_call, r_call1, r_prim, r_prim1, r_primB, r_primB1, r_new, r_sub, r_sub1, r_sub2, r_dsub, r_dsub1, r_dsub2, r_app, r_app1, r_app2, r_get, r_get1, r_get2, r_get3, r_frz, r_frz1, r_es0, r_es, r_es1, r_es2, r_ps0, r_ps, r_ps1, r_ps2, r_ps3, r_o0, r_o, r_o1, r_g0, r_g, r_g1, r_cut, r_cut0, r_cut1, r_cut2, r_comp, r_comp1, r_comp2, r_step, r_step1, r_step2, r_step3, r_walkL0, r_walkL, r_walkL1, r_seq, r_seq1, r_seq2, r_rng1, r_rng1a, r_rng2, r_rng2a, r_rng2b, r_in, r_zip, r_zip1, r_zip2, r_c, r_asg, r_asg1, r_nx, r_set, r_set1, r_set2, r_set3, r_st, r_expr, r_expr1, r_ret, r_ret1, r_if, r_if1, r_pass, r_ss0, r_ss, r_ss1, r_ss2, r_for, r_for1, r_fstep, r_for2, r_walkF0, r_walkF, r_walkF1, r_walkF2, v_rd_int, v_rd_bl, v_rd_str, v_rd_non, v_rd_tup, v_rd_lst, v_rd_dct, v_rR_int, v_rR_bl, v_rR_str, v_rR_non, v_rR_tup, v_rR_lst, v_rR_dct, v_rR_ro, v_rR_box, v_and, v_or, a_0, a_1, a_2, a_3, a_4, p_int, p_inti, p_lenl, p_lent, p_max, p_min, p_abs, p_all3, f_sd, f_w, p_isint, p_isinl, p_isini, p_isinb, p_isins, p_isinn, c_isn, c_isb, c_isi, c_iss, c_ist, c_isl, c_inl, c_int, b_add, b_sub, b_mul, b_mul0, b_mul1, b_w2, b_w3, v_rd_w, v_un_w, c_eqi, c_nei, c_eqs, c_lt, c_le, c_gt, c_ge, s_t, s_l, t_nm, t_tp, t_0, t_1, u_int, u_bl, u_str, u_non, u_tup, u_lst, u_0, u_1, u_s, l_5, l_4, l_3, l_2, l_1, l_0, n_0, n_1, n_2, n_3, n_4, n_5, n_6, n_7, n_8, n_9, n_10, n_11, n_12, m_0, m_1, m_2, m_3, m_4, m_5, m_6, m_7, m_8, m_9, m_10, m_11, m_12, m_13, m_14, m_15, m_16, i_23, eq_nn, eq_bb, eq_ll, beq_self_eq_true, isTy, fin_bl, fin_int, fin_tup, fin_lst, fin_nx, Option.bind_some, Option.map_some, List.map_cons, List.map_nil, List.length_cons, List.length_nil, List.replicate, List.getElem?_cons_zero, List.getElem?_cons_succ, List.set_cons_zero, List.set_cons_succ, List.cons_append, List.nil_append, List.append_nil, Nat.sub_self, List.take_length, Bool.false_eq_true, reduceIte, Bool.and_true, Bool.true_and, Bool.not_true, Bool.not_false, Bool.false_and, Bool.and_false, Nat.reduceSub, List.replicate_succ, List.replicate_zero, Nat.succ_sub_succ, decide_true, decide_false, Int.reduceEq, Int.reduceLT, Int.reduceLE, Int.reduceNeg, Int.reduceGT, gt_iff_lt, ge_iff_le, Bool.and_assoc, List.any_cons, List.any_nil, Bool.or_true, Bool.true_or, Bool.or_false, Bool.false_or]
  | tup ds => simp -implicitDefEqProofs only [f_law_kind, f_law_kind_x0, f_law_kind_x1, f_law_kind_x2, kindOf, r_din, r_din1, r_din2, r_din3, r_pop, r_pop1, r_gt, r_gt1, r_gt2, r_cat, r_cat1, r_cat2, r_cat3, r_sk, r_sk1, r_sk2, r_sk3, r_keys, r_keys1, r_items, r_items1, r_dcm, r_dcm1, r_dcm2, r_dcs, r_dcs1, r_dcs2, r_dcs3, r_dcs4, r_whl, r_dctB, v_rd_ro, r_var, r_glob, r_int, r_bl, r_non, r_str, r_tup, r_tup1, r_lst, r_lst0, r_lst1, r_dct, r_dct1, r_dct2, r_fn, r_bin, r_bin1, r_bin2, r_neg, r_neg1, r_not, r_not1, r_and, r_and1, r_or, r_or1, r_ite, r_ite1, r_kbl, r_cmp, r_cmp1, r_cmp2, r_chain, r_chain1, r_chain2, r_chain3, r_chain4, r_call, r_call1, r_prim, r_prim1, r_primB, r_primB1, r_new, r_sub, r_sub1, r_sub2, r_dsub, r_dsub1, r_dsub2, r_app, r_app1, r_app2, r_get, r_get1, r_get2, r_get3, r_frz, r_frz1, r_es0, r_es, r_es1, r_es2, r_ps0, r_ps, r_ps1, r_ps2, r_ps3, r_o0, r_o, r_o1, r_g0, r_g, r_g1, r_cut, r_cut0, r_cut1, r_cut2, r_comp, r_comp1, r_comp2, r_step, r_step1, r_step2, r_step3, r_walkL0, r_walkL, r_walkL1, r_seq, r_seq1, r_seq2, r_rng1, r_rng1a, r_rng2, r_rng2a, r_rng2b, r_in, r_zip, r_zip1, r_zip2, r_c, r_asg, r_asg1, r_nx, r_set, r_set1, r_set2, r_set3, r_st, r_expr, r_expr1, r_ret, r_ret1, r_if, r_if1, r_pass, r_ss0, r_ss, r_ss1, r_ss2, r_for, r_for1, r_fstep, r_for2, r_walkF0, r_walkF, r_walkF1, r_walkF2, v_rd_int, v_rd_bl, v_rd_str, v_rd_non, v_rd_tup, v_rd_lst, v_rd_dct, v_rR_int, v_rR_bl, v_rR_str, v_rR_non, v_rR_tup, v_rR_lst, v_rR_dct, v_rR_ro, v_rR_box, v_and, v_or, a_0, a_1, a_2, a_3, a_4, p_int, p_inti, p_lenl, p_lent, p_max, p_min, p_abs, p_all3, f_sd, f_w, p_isint, p_isinl, p_isini, p_isinb, p_isins, p_isinn, c_isn, c_isb, c_isi, c_iss, c_ist, c_isl, c_inl, c_int, b_add, b_sub, b_mul, b_mul0, b_mul1, b_w2, b_w3, v_rd_w, v_un_w, c_eqi, c_nei, c_eqs, c_lt, c_le, c_gt, c_ge, s_t, s_l, t_nm, t_tp, t_0, t_1, u_int, u_bl, u_str, u_non, u_tup, u_lst, u_0, u_1, u_s, l_5, l_4, l_3, l_2, l_1, l_0, n_0, n_1, n_2, n_3, n_4, n_5, n_6, n_7, n_8, n_9, n_10, n_11, n_12, m_0, m_1, m_2, m_3, m_4, m_5, m_6, m_7, m_8, m_9, m_10, m_11, m_12, m_13, m_14, m_15, m_16, i_23, eq_nn, eq_bb, eq_ll, beq_self_eq_true, isTy, fin_bl, fin_int, fin_tup, fin_lst, fin_nx, Option.bind_some, Option.map_some, List.map_cons, List.map_nil, List.length_cons, List.length_nil, List.replicate, List.getElem?_cons_zero, List.getElem?_cons_succ, List.set_cons_zero, List.set_cons_succ, List.cons_append, List.nil_append, List.append_nil, Nat.sub_self, List.take_length, Bool.false_eq_true, reduceIte, Bool.and_true, Bool.true_and, Bool.not_true, Bool.not_false, Bool.false_and, Bool.and_false, Nat.reduceSub, List.replicate_succ, List.replicate_zero, Nat.succ_sub_succ, decide_true, decide_false, Int.reduceEq, Int.reduceLT, Int.reduceLE, Int.reduceNeg, Int.reduceGT, gt_iff_lt, ge_iff_le, Bool.and_assoc, List.any_cons, List.any_nil, Bool.or_true, Bool.true_or, Bool.or_false, Bool.false_or]
  | lst ds => simp -implicitDefEqProofs only [f_law_kind, f_law_kind_x0, f_law_kind_x1, f_law_kind_x2, kindOf, r_din, r_din1, r_din2, r_din3, r_pop, r_pop1, r_gt, r_gt1, r_gt2, r_cat, r_cat1, r_cat2, r_cat3, r_sk, r_sk1, r_sk2, r_sk3, r_keys, r_keys1, r_items, r_items1, r_dcm, r_dcm1, r_dcm2, r_dcs, r_dcs1, r_dcs2, r_dcs3, r_dcs4, r_whl, r_dctB, v_rd_ro, r_var, r_glob, r_int, r_bl, r_non, r_str, r_tup, r_tup1, r_lst, r_lst0, r_lst1, r_dct, r_dct1, r_dct2, r_fn, r_bin, r_bin1, r_bin2, r_neg, r_neg1, r_not, r_not1, r_and, r_and1, r_or, r_or1, r_ite, r_ite1, r_kbl, r_cmp, r_cmp1, r_cmp2, r_chain, r_chain1, r_chain2, r_chain3, r_chain4, r_call, r_call1, r_prim, r_prim1, r_primB, r_primB1, r_new, r_sub, r_sub1, r_sub2, r_dsub, r_dsub1, r_dsub2, r_app, r_app1, r_app2, r_get, r_get1, r_get2, r_get3, r_frz, r_frz1, r_es0, r_es, r_es1, r_es2, r_ps0, r_ps, r_ps1, r_ps2, r_ps3, r_o0, r_o, r_o1, r_g0, r_g, r_g1, r_cut, r_cut0, r_cut1, r_cut2, r_comp, r_comp1, r_comp2, r_step, r_step1, r_step2, r_step3, r_walkL0, r_walkL, r_walkL1, r_seq, r_seq1, r_seq2, r_rng1, r_rng1a, r_rng2, r_rng2a, r_rng2b, r_in, r_zip, r_zip1, r_zip2, r_c, r_asg, r_asg1, r_nx, r_set, r_set1, r_set2, r_set3, r_st, r_expr, r_expr1, r_ret, r_ret1, r_if, r_if1, r_pass, r_ss0, r_ss, r_ss1, r_ss2, r_for, r_for1, r_fstep, r_for2, r_walkF0, r_walkF, r_walkF1, r_walkF2, v_rd_int, v_rd_bl, v_rd_str, v_rd_non, v_rd_tup, v_rd_lst, v_rd_dct, v_rR_int, v_rR_bl, v_rR_str, v_rR_non, v_rR_tup, v_rR_lst, v_rR_dct, v_rR_ro, v_rR_box, v_and, v_or, a_0, a_1, a_2, a_3, a_4, p_int, p_inti, p_lenl, p_lent, p_max, p_min, p_abs, p_all3, f_sd, f_w, p_isint, p_isinl, p_isini, p_isinb, p_isins, p_isinn, c_isn, c_isb, c_isi, c_iss, c_ist, c_isl, c_inl, c_int, b_add, b_sub, b_mul, b_mul0, b_mul1, b_w2, b_w3, v_rd_w, v_un_w, c_eqi, c_nei, c_eqs, c_lt, c_le, c_gt, c_ge, s_t, s_l, t_nm, t_tp, t_0, t_1, u_int, u_bl, u_str, u_non, u_tup, u_lst, u_0, u_1, u_s, l_5, l_4, l_3, l_2, l_1, l_0, n_0, n_1, n_2, n_3, n_4, n_5, n_6, n_7, n_8, n_9, n_10, n_11, n_12, m_0, m_1, m_2, m_3, m_4, m_5, m_6, m_7, m_8, m_9, m_10, m_11, m_12, m_13, m_14, m_15, m_16, i_23, eq_nn, eq_bb, eq_ll, beq_self_eq_true, isTy, fin_bl, fin_int, fin_tup, fin_lst, fin_nx, Option.bind_some, Option.map_some, List.map_cons, List.map_nil, List.length_cons, List.length_nil, List.replicate, List.getElem?_cons_zero, List.getElem?_cons_succ, List.set_cons_zero, List.set_cons_succ, List.cons_append, List.nil_append, List.append_nil, Nat.sub_self, List.take_length, Bool.false_eq_true, reduceIte, Bool.and_true, Bool.true_and, Bool.not_true, Bool.not_false, Bool.false_and, Bool.and_false, Nat.reduceSub, List.replicate_succ, List.replicate_zero, Nat.succ_sub_succ, decide_true, decide_false, Int.reduceEq, Int.reduceLT, Int.reduceLE, Int.reduceNeg, Int.reduceGT, gt_iff_lt, ge_iff_le, Bool.and_assoc, List.any_cons, List.any_nil, Bool.or_true, Bool.true_or, Bool.or_false, Bool.false_or]
  | dct t ks vs => cases n <;> simp -implicitDefEqProofs [D.pl] at hd
  | box m => cases n <;> simp -implicitDefEqProofs [D.pl] at hd
  | ro ds => cases n <;> simp -implicitDefEqProofs [D.pl] at hd
theorem twins_walk (g : Nat → List D → Ev.M D) (bs fu : Nat) (st : Store) (x y : Option D) : ∀ ds : List D, (∀ d ∈ ds, g 19 [d, d] st = some (.bl true, st)) →
    walkL (cStep ⟨g, bs, fu⟩ [x, y, none, none] [2, 3] (.int 1) (.tup [.name 2, .name 3]) (some (.not (.call 19 [.var 2, .var 3])))) ((ds.zip ds).map fun p => .tup [p.1, p.2]) [] st = some ([], st)
  | [], _ => rfl
  | d :: ds, h => by
    have h1 := h d (List.mem_cons_self ..)
    have h2 := twins_walk g bs fu st x y ds fun d hd => h d (List.mem_cons_of_mem _ hd)
    simp -implicitDefEqProofs only [List.zip_cons_cons, List.map_cons, wipeE, h1, r_din, r_din1, r_din2, r_din3, r_pop, r_pop1, r_gt, r_gt1, r_gt2, r_cat, r_cat1, r_cat2, r_cat3, r_sk, r_sk1, r_sk2, r_sk3, r_keys, r_keys1, r_items, r_items1, r_dcm, r_dcm1, r_dcm2, r_dcs, r_dcs1, r_dcs2, r_dcs3, r_dcs4, r_whl, r_dctB, v_rd_ro, r_var, r_glob, r_int, r_bl, r_non, r_str, r_tup, r_tup1, r_lst, r_lst0, r_lst1, r_dct, r_dct1, r_dct2, r_fn, r_bin, r_bin1, r_bin2, r_neg, r_neg1, r_not, r_not1, r_and, r_and1, r_or, r_or1, r_ite, r_ite1, r_kbl, r_cmp, r_cmp1, r_cmp2, r_chain, r_chain1, r_chain2, r_chain3, r_chain4, r_call, r_call1, r_prim, r_prim1, r_primB, r_primB1, r_new, r_sub, r_sub1, r_sub2, r_dsub, r_dsub1, r_dsub2, r_app, r_app1, r_app2, r_get, r_get1, r_get2, r_get3, r_frz, r_frz1, r_es0, r_es, r_es1, r_es2, r_ps0, r_ps, r_ps1, r_ps2, r_ps3, r_o0, r_o, r_o1, r_g0, r_g, r_g1, r_cut, r_cut0, r_cut1, r_cut2, r_comp, r_comp1, r_comp2, r_step, r_step1, r_step2, r_step3, r_walkL0, r_walkL, r_walkL1, r_seq, r_seq1, r_seq2, r_rng1, r_rng1a, r_rng2, r_rng2a, r_rng2b, r_in, r_zip, r_zip1, r_zip2, r_c, r_asg, r_asg1, r_nx, r_set, r_set1, r_set2, r_set3, r_st, r_expr, r_expr1, r_ret, r_ret1, r_if, r_if1, r_pass, r_ss0, r_ss, r_ss1, r_ss2, r_for, r_for1, r_fstep, r_for2, r_walkF0, r_walkF, r_walkF1, r_walkF2, v_rd_int, v_rd_bl, v_rd_str, v_rd_non, v_rd_tup, v_rd_lst, v_rd_dct, v_rR_int, v_rR_bl, v_rR_str, v_rR_non, v_rR_tup, v_rR_lst, v_rR_dct, v_rR_ro, v_rR_box, v_and, v_or, a_0, a_1, a_2, a_3, a_4, p_int, p_inti, p_lenl, p_lent, p_max, p_min, p_abs, p_all3, f_sd, f_w, p_isint, p_isinl, p_isini, p_isinb, p_isins, p_isinn, c_isn, c_isb, c_isi, c_iss, c_ist, c_isl, c_inl, c_int, b_add, b_sub, b_mul, b_mul0, b_mul1, b_w2, b_w3, v_rd_w, v_un_w, c_eqi, c_nei, c_eqs, c_lt, c_le, c_gt, c_ge, s_t, s_l, t_nm, t_tp, t_0, t_1, u_int, u_bl, u_str, u_non, u_tup, u_lst, u_0, u_1, u_s, l_5, l_4, l_3, l_2, l_1, l_0, n_0, n_1, n_2, n_3, n_4, n_5, n_6, n_7, n_8, n_9, n_10, n_11, n_12, m_0, m_1, m_2, m_3, m_4, m_5, m_6, m_7, m_8, m_9, m_10, m_11, m_12, m_13, m_14, m_15, m_16, i_23, eq_nn, eq_bb, eq_ll, beq_self_eq_true, isTy, fin_bl, fin_int, fin_tup, fin_lst, fin_nx, Option.bind_some, Option.map_some, List.map_cons, List.map_nil, List.length_cons, List.length_nil, List.replicate, List.getElem?_cons_zero, List.getElem?_cons_succ, List.set_cons_zero, List.set_cons_succ, List.cons_append, List.nil_append, List.append_nil, Nat.sub_self, List.take_length, Bool.false_eq_true, reduceIte, Bool.and_true, Bool.true_and, Bool.not_true, Bool.not_false, Bool.false_and, Bool.and_false, Nat.reduceSub, List.replicate_succ, List.replicate_zero, Nat.succ_sub_succ, decide_true, decide_false, Int.reduceEq, Int.reduceLT, Int.reduceLE, Int.reduceNeg, Int.reduceGT, gt_iff_lt, ge_iff_le, Bool.and_assoc, List.any_cons, List.any_nil, Bool.or_true, Bool.true_or, Bool.or_false, Bool.false_or]
    exact h2
theorem pls_mem {n : Nat} : ∀ {ds : List D}, D.pls n ds = true → ∀ d ∈ ds, D.pl n d = true
  | x :: xs, h, d, hd => by
    simp -implicitDefEqProofs only [D.pls, Bool.and_eq_true] at h
    rcases List.mem_cons.mp hd with rfl | hd
    · exact h.1
    · exact pls_mem h.2 d hd
theorem twins (fuel : Nat) : ∀ (n k : Nat) (d : D), D.pl n d = true → ∀ st : Store, evCall T fuel (n + k + 2) 19 [d, d] st = some (.bl true, st) := by
  intro n
  induction n with
  | zero =>
    intro k d hd st
    have e1 := fun st => ev_kind fuel (0 + k) d 0 hd st
    rw [call_eq (fn := f_law_twins) rfl rfl]
    cases d <;> first | (simp -implicitDefEqProofs [D.pl] at hd; done) | simp -implicitDefEqProofs only [f_law_twins, f_law_twins_x0, f_law_twins_x1, f_law_twins_x2, e1, kindOf, r_din, r_din1, r_din2, r_din3, r_pop, r_pop1, r_gt, r_gt1, r_gt2, r_cat, r_cat1, r_cat2, r_cat3, r_sk, r_sk1, r_sk2, r_sk3, r_keys, r_keys1, r_items, r_items1, r_dcm, r_dcm1, r_dcm2, r_dcs, r_dcs1, r_dcs2, r_dcs3, r_dcs4, r_whl, r_dctB, v_rd_ro, r_var, r_glob, r_int, r_bl, r_non, r_str, r_tup, r_tup1, r_lst, r_lst0, r_lst1, r_dct, r_dct1, r_dct2, r_fn, r_bin, r_bin1, r_bin2, r_neg, r_neg1, r_not, r_not1, r_and, r_and1, r_or, r_or1, r_ite, r_ite1, r_kbl, r_cmp, r_cmp1, r_cmp2, r_chain, r_chain1, r_chain2, r_chain3, r_chain4, r_call, r_call1, r_prim, r_prim1, r_primB, r_primB1, r_new, r_sub, r_sub1, r_sub2, r_dsub, r_dsub1, r_dsub2, r_app, r_app1, r_app2, r_get, r_get1, r_get2, r_get3, r_frz, r_frz1, r_es0, r_es, r_es1, r_es2, r_ps0, r_ps, r_ps1, r_ps2, r_ps3, r_o0, r_o, r_o1, r_g0, r_g, r_g1, r_cut, r_cut0, r_cut1, r_cut2, r_comp, r_comp1, r_comp2, r_step, r_step1, r_step2, r_step3, r_walkL0, r_walkL, r_walkL1, r_seq, r_seq1, r_seq2, r_rng1, r_rng1a, r_rng2, r_rng2a, r_rng2b, r_in, r_zip, r_zip1, r_zip2, r_c, r_asg, r_asg1, r_nx, r_set, r_set1, r_set2, r_set3, r_st, r_expr, r_expr1, r_ret, r_ret1, r_if, r_if1, r_pass, r_ss0, r_ss, r_ss1, r_ss2, r_for, r_for1, r_fstep, r_for2, r_walkF0, r_walkF, r_walkF1, r_walkF2, v_rd_int, v_rd_bl, v_rd_str, v_rd_non, v_rd_tup, v_rd_lst, v_rd_dct, v_rR_int, v_rR_bl, v_rR_str, v_rR_non, v_rR_tup, v_rR_lst, v_rR_dct, v_rR_ro, v_rR_box, v_and, v_or, a_0, a_1, a_2, a_3, a_4, p_int, p_inti, p_lenl, p_lent, p_max, p_min, p_abs, p_all3, f_sd, f_w, p_isint, p_isinl, p_isini, p_isinb, p_isins, p_isinn, c_isn, c_isb, c_isi, c_iss, c_ist, c_isl, c_inl, c_int, b_add, b_sub, b_mul, b_mul0, b_mul1, b_w2, b_w3, v_rd_w, v_un_w, c_eqi, c_nei, c_eqs, c_lt, c_le, c_gt, c_ge, s_t, s_l, t_nm, t_tp, t_0, t_1, u_int, u_bl, u_str, u_non, u_tup, u_lst, u_0, u_1, u_s, l_5, l_4, l_3, l_2, l_1, l_0, n_0, n_1, n_2, n_3, n_4, n_5, n_6, n_7, n_8, n_9, n_10, n_11, n_12, m_0, m_1, m_2, m_3, m_4, m_5, m_6, m_7, m_8, m_9, m_10, m_11, m_12, m_13, m_14, m_15, m_16, i_23, eq_nn, eq_bb, eq_ll, beq_self_eq_true, isTy, fin_bl, fin_int, fin_tup, fin_lst, fin_nx, Option.bind_some, Option.map_some, List.map_cons, List.map_nil, List.length_cons, List.length_nil, List.replicate, List.getElem?_cons_zero, List.getElem?_cons_succ, List.set_cons_zero, List.set_cons_succ, List.cons_append, List.nil_append, List.append_nil, Nat.sub_self, List.take_length, Bool.false_eq_true, reduceIte, Bool.and_true, Bool.true_and, Bool.not_true, Bool.not_false, Bool.false_and, Bool.and_false, Nat.reduceSub, List.replicate_succ, List.replicate_zero, Nat.succ_sub_succ, decide_true, decide_false, Int.reduceEq, Int.reduceLT, Int.reduceLE, Int.reduceNeg, Int.reduceGT, gt_iff_lt, ge_iff_le, Bool.and_assoc, List.any_cons, List.any_nil, Bool.or_true, Bool.true_or, Bool.or_false, Bool.false_or]
  | succ n ih =>
    intro k d hd st
    have e1 := fun st => ev_kind fuel (n + 1 + k) d (n + 1) hd st
    rw [call_eq (fn := f_law_twins) rfl rfl]
    have ih' : ∀ d, D.pl n d = true → ∀ st, evCall T fuel (n + 1 + k + 1) 19 [d, d] st = some (.bl true, st) := fun d hd st => by
      rw [show n + 1 + k + 1 = n + k + 2 by omega]
      exact ih k d hd st
    have wk : ∀ (ds : List D), D.pls n ds = true → ∀ x y, _ := fun ds hds x y => twins_walk (evCall T fuel (n + 1 + k + 1)) st.length fuel st x y ds fun d hd => ih' d (pls_mem hds d hd) st
    cases d with
    | tup ds =>
      have w := wk ds (by simpa [D.pl] using hd) (some (.tup ds)) (some (.tup ds))
      simp -implicitDefEqProofs only [f_law_twins, f_law_twins_x0, f_law_twins_x1, f_law_twins_x2, e1, kindOf, w, zipD, r_din, r_din1, r_din2, r_din3, r_pop, r_pop1, r_gt, r_gt1, r_gt2, r_cat, r_cat1, r_cat2, r_cat3, r_sk, r_sk1, r_sk2, r_sk3, r_keys, r_keys1, r_items, r_items1, r_dcm, r_dcm1, r_dcm2, r_dcs, r_dcs1, r_dcs2, r_dcs3, r_dcs4, r_whl, r_dctB, v_rd_ro, r_var, r_glob, r_int, r_bl, r_non, r_str, r_tup, r_tup1, r_lst, r_lst0, r_lst1, r_dct, r_dct1, r_dct2, r_fn, r_bin, r_bin1, r_bin2, r_neg, r_neg1, r_not, r_not1, r_and, r_and1, r_or, r_or1, r_ite, r_ite1, r_kbl, r_cmp, r_cmp1, r_cmp2, r_chain, r_chain1, r_chain2, r_chain3, r_chain4, r_call, r_call1, r_prim, r_prim1, r_primB, r_primB1, r_new, r_sub, r_sub1, r_sub2, r_dsub, r_dsub1, r_dsub2, r_app, r_app1, r_app2, r_get, r_get1, r_get2, r_get3, r_frz, r_frz1, r_es0, r_es, r_es1, r_es2, r_ps0, r_ps, r_ps1, r_ps2, r_ps3, r_o0, r_o, r_o1, r_g0, r_g, r_g1, r_cut, r_cut0, r_cut1, r_cut2, r_comp, r_comp1, r_comp2, r_step, r_step1, r_step2, r_step3, r_walkL0, r_walkL, r_walkL1, r_seq, r_seq1, r_seq2, r_rng1, r_rng1a, r_rng2, r_rng2a, r_rng2b, r_in, r_zip, r_zip1, r_zip2, r_c, r_asg, r_asg1, r_nx, r_set, r_set1, r_set2, r_set3, r_st, r_expr, r_expr1, r_ret, r_ret1, r_if, r_if1, r_pass, r_ss0, r_ss, r_ss1, r_ss2, r_for, r_for1, r_fstep, r_for2, r_walkF0, r_walkF, r_walkF1, r_walkF2, v_rd_int, v_rd_bl, v_rd_str, v_rd_non, v_rd_tup, v_rd_lst, v_rd_dct, v_rR_int, v_rR_bl, v_rR_str, v_rR_non, v_rR_tup, v_rR_lst, v_rR_dct, v_rR_ro, v_rR_box, v_and, v_or, a_0, a_1, a_2, a_3, a_4, p_int, p_inti, p_lenl, p_lent, p_max, p_min, p_abs, p_all3, f_sd, f_w, p_isint, p_isinl, p_isini, p_isinb, p_isins, p_isinn, c_isn, c_isb, c_isi, c_iss, c_ist, c_isl, c_inl, c_int, b_add, b_sub, b_mul, b_mul0, b_mul1, b_w2, b_w3, v_rd_w, v_un_w, c_eqi, c_nei, c_eqs, c_lt, c_le, c_gt, c_ge, s_t, s_l, t_nm, t_tp, t_0, t_1, u_int, u_bl, u_str, u_non, u_tup, u_lst, u_0, u_1, u_s, l_5, l_4, l_3, l_2, l_1, l_0, n_0, n_1, n_2, n_3, n_4, n_5, n_6, n_7, n_8, n_9, n_10, n_11, n_12, m_0, m_1, m_2, m_3, m_4, m_5, m_6, m_7, m_8, m_9, m_10, m_11, m_12, m_13, m_14, m_15, m_16, i_23, eq_nn, eq_bb, eq_ll, beq_self_eq_true, isTy, fin_bl, fin_int, fin_tup, fin_lst, fin_nx, Option.bind_some, Option.map_some, List.map_cons, List.map_nil, List.length_cons, List.length_nil, List.replicate, List.getElem?_cons_zero, List.getElem?_cons_succ, List.set_cons_zero, List.set_cons_succ, List.cons_append, List.nil_append, List.append_nil, Nat.sub_self, List.take_length, Bool.false_eq_true, reduceIte, Bool.and_true, Bool.true_and, Bool.not_true, Bool.not_false, Bool.false_and, Bool.and_false, Nat.reduceSub, List.replicate_succ, List.replicate_zero, Nat.succ_sub_succ, decide_true, decide_false, Int.reduceEq, Int.reduceLT, Int.reduceLE, Int.reduceNeg, Int.reduceGT, gt_iff_lt, ge_iff_le, Bool.and_assoc, List.any_cons, List.any_nil, Bool.or_true, Bool.true_or, Bool.or_false, Bool.false_or]
    | lst ds =>
      have w := wk ds (by simpa [D.pl] using hd) (some (.lst ds)) (some (.lst ds))
      simp -implicitDefEqProofs only [f_law_twins, f_law_twins_x0, f_law_twins_x1, f_law_twins_x2, e1, kindOf, w, zipD, r_din, r_din1, r_din2, r_din3, r_pop, r_pop1, r_gt, r_gt1, r_gt2, r_cat, r_cat1, r_cat2, r_cat3, r_sk, r_sk1, r_sk2, r_sk3, r_keys, r_keys1, r_items, r_items1, r_dcm, r_dcm1, r_dcm2, r_dcs, r_dcs1, r_dcs2, r_dcs3, r_dcs4, r_whl, r_dctB, v_rd_ro, r_var, r_glob, r_int, r_bl, r_non, r_str, r_tup, r_tup1, r_lst, r_lst0, r_lst1, r_dct, r_dct1, r_dct2, r_fn, r_bin, r_bin1, r_bin2, r_neg, r_neg1, r_not, r_not1, r_and, r_and1, r_or, r_or1, r_ite, r_ite1, r_kbl, r_cmp, r_cmp1, r_cmp2, r_chain, r_chain1, r_chain2, r_chain3, r_chain4, r_call, r_call1, r_prim, r_prim1, r_primB, r_primB1, r_new, r_sub, r_sub1, r_sub2, r_dsub, r_dsub1, r_dsub2, r_app, r_app1, r_app2, r_get, r_get1, r_get2, r_get3, r_frz, r_frz1, r_es0, r_es, r_es1, r_es2, r_ps0, r_ps, r_ps1, r_ps2, r_ps3, r_o0, r_o, r_o1, r_g0, r_g, r_g1, r_cut, r_cut0, r_cut1, r_cut2, r_comp, r_comp1, r_comp2, r_step, r_step1, r_step2, r_step3, r_walkL0, r_walkL, r_walkL1, r_seq, r_seq1, r_seq2, r_rng1, r_rng1a, r_rng2, r_rng2a, r_rng2b, r_in, r_zip, r_zip1, r_zip2, r_c, r_asg, r_asg1, r_nx, r_set, r_set1, r_set2, r_set3, r_st, r_expr, r_expr1, r_ret, r_ret1, r_if, r_if1, r_pass, r_ss0, r_ss, r_ss1, r_ss2, r_for, r_for1, r_fstep, r_for2, r_walkF0, r_walkF, r_walkF1, r_walkF2, v_rd_int, v_rd_bl, v_rd_str, v_rd_non, v_rd_tup, v_rd_lst, v_rd_dct, v_rR_int, v_rR_bl, v_rR_str, v_rR_non, v_rR_tup, v_rR_lst, v_rR_dct, v_rR_ro, v_rR_box, v_and, v_or, a_0, a_1, a_2, a_3, a_4, p_int, p_inti, p_lenl, p_lent, p_max, p_min, p_abs, p_all3, f_sd, f_w, p_isint, p_isinl, p_isini, p_isinb, p_isins, p_isinn, c_isn, c_isb, c_isi, c_iss, c_ist, c_isl, c_inl, c_int, b_add, b_sub, b_mul, b_mul0, b_mul1, b_w2, b_w3, v_rd_w, v_un_w, c_eqi, c_nei, c_eqs, c_lt, c_le, c_gt, c_ge, s_t, s_l, t_nm, t_tp, t_0, t_1, u_int, u_bl, u_str, u_non, u_tup, u_lst, u_0, u_1, u_s, l_5, l_4, l_3, l_2, l_1, l_0, n_0, n_1, n_2, n_3, n_4, n_5, n_6, n_7, n_8, n_9, n_10, n_11, n_12, m_0, m_1, m_2, m_3, m_4, m_5, m_6, m_7, m_8, m_9, m_10, m_11, m_12, m_13, m_14, m_15, m_16, i_23, eq_nn, eq_bb, eq_ll, beq_self_eq_true, isTy, fin_bl, fin_int, fin_tup, fin_lst, fin_nx, Option.bind_some, Option.map_some, List.map_cons, List.map_nil, List.length_cons, List.length_nil, List.replicate, List.getElem?_cons_zero, List.getElem?_cons_succ, List.set_cons_zero, List.set_cons_succ, List.cons_append, List.nil_append, List.append_nil, Nat.sub_self, List.take_length, Bool.false_eq_true, reduceIte, Bool.and_true, Bool.true_and, Bool.not_true, Bool.not_false, Bool.false_and, Bool.and_false, Nat.reduceSub, List.replicate_succ, List.replicate_zero, Nat.succ_sub_succ, decide_true, decide_false, Int.reduceEq, Int.reduceLT, Int.reduceLE, Int.reduceNeg, Int.reduceGT, gt_iff_lt, ge_iff_le, Bool.and_assoc, List.any_cons, List.any_nil, Bool.or_true, Bool.true_or, Bool.or_false, Bool.false_or]
    | _ => first | (simp -implicitDefEqProofs [D.pl] at hd; done) | simp -implicitDefEqProofs only [f_law_twins, f_law_twins_x0, f_law_twins_x1, f_law_twins_x2, e1, kindOf, r_din, r_din1, r_din2, r_din3, r_pop, r_pop1, r_gt, r_gt1, r_gt2, r_cat, r_cat1, r_cat2, r_cat3, r_sk, r_sk1, r_sk2, r_sk3, r_keys, r_keys1, r_items, r_items1, r_dcm, r_dcm1, r_dcm2, r_dcs, r_dcs1, r_dcs2, r_dcs3, r_dcs4, r_whl, r_dctB, v_rd_ro, r_var, r_glob, r_int, r_bl, r_non, r_str, r_tup, r_tup1, r_lst, r_lst0, r_lst1, r_dct, r_dct1, r_dct2, r_fn, r_bin, r_bin1, r_bin2, r_neg, r_neg1, r_not, r_not1, r_and, r_and1, r_or, r_or1, r_ite, r_ite1, r_kbl, r_cmp, r_cmp1, r_cmp2, r_chain, r_chain1, r_chain2, r_chain3, r_chain4, r_call, r_call1, r_prim, r_prim1, r_primB, r_primB1, r_new, r_sub, r_sub1, r_sub2, r_dsub, r_dsub1, r_dsub2, r_app, r_app1, r_app2, r_get, r_get1, r_get2, r_get3, r_frz, r_frz1, r_es0, r_es, r_es1, r_es2, r_ps0, r_ps, r_ps1, r_ps2, r_ps3, r_o0, r_o, r_o1, r_g0, r_g, r_g1, r_cut, r_cut0, r_cut1, r_cut2, r_comp, r_comp1, r_comp2, r_step, r_step1, r_step2, r_step3, r_walkL0, r_walkL, r_walkL1, r_seq, r_seq1, r_seq2, r_rng1, r_rng1a, r_rng2, r_rng2a, r_rng2b, r_in, r_zip, r_zip1, r_zip2, r_c, r_asg, r_asg1, r_nx, r_set, r_set1, r_set2, r_set3, r_st, r_expr, r_expr1, r_ret, r_ret1, r_if, r_if1, r_pass, r_ss0, r_ss, r_ss1, r_ss2, r_for, r_for1, r_fstep, r_for2, r_walkF0, r_walkF, r_walkF1, r_walkF2, v_rd_int, v_rd_bl, v_rd_str, v_rd_non, v_rd_tup, v_rd_lst, v_rd_dct, v_rR_int, v_rR_bl, v_rR_str, v_rR_non, v_rR_tup, v_rR_lst, v_rR_dct, v_rR_ro, v_rR_box, v_and, v_or, a_0, a_1, a_2, a_3, a_4, p_int, p_inti, p_lenl, p_lent, p_max, p_min, p_abs, p_all3, f_sd, f_w, p_isint, p_isinl, p_isini, p_isinb, p_isins, p_isinn, c_isn, c_isb, c_isi, c_iss, c_ist, c_isl, c_inl, c_int, b_add, b_sub, b_mul, b_mul0, b_mul1, b_w2, b_w3, v_rd_w, v_un_w, c_eqi, c_nei, c_eqs, c_lt, c_le, c_gt, c_ge, s_t, s_l, t_nm, t_tp, t_0, t_1, u_int, u_bl, u_str, u_non, u_tup, u_lst, u_0, u_1, u_s, l_5, l_4, l_3, l_2, l_1, l_0, n_0, n_1, n_2, n_3, n_4, n_5, n_6, n_7, n_8, n_9, n_10, n_11, n_12, m_0, m_1, m_2, m_3, m_4, m_5, m_6, m_7, m_8, m_9, m_10, m_11, m_12, m_13, m_14, m_15, m_16, i_23, eq_nn, eq_bb, eq_ll, beq_self_eq_true, isTy, fin_bl, fin_int, fin_tup, fin_lst, fin_nx, Option.bind_some, Option.map_some, List.map_cons, List.map_nil, List.length_cons, List.length_nil, List.replicate, List.getElem?_cons_zero, List.getElem?_cons_succ, List.set_cons_zero, List.set_cons_succ, List.cons_append, List.nil_append, List.append_nil, Nat.sub_self, List.take_length, Bool.false_eq_true, reduceIte, Bool.and_true, Bool.true_and, Bool.not_true, Bool.not_false, Bool.false_and, Bool.and_false, Nat.reduceSub, List.replicate_succ, List.replicate_zero, Nat.succ_sub_succ, decide_true, decide_false, Int.reduceEq, Int.reduceLT, Int.reduceLE, Int.reduceNeg, Int.reduceGT, gt_iff_lt, ge_iff_le, Bool.and_assoc, List.any_cons, List.any_nil, Bool.or_true, Bool.true_or, Bool.or_false, Bool.false_or]
theorem ev_spring (fuel k : Nat) (ns : List Int) (i : Int) (hi : 0 ≤ i) (st : Store) : ∃ a b, Sp a b ∧ evCall T fuel (k + 1) 16 [.ro (ns.map .int), .int i] st = some (.box st.length, st ++ [.lst [.int a, .int b]]) := by
  have key : ∀ cell : Int, (0 ≤ cell) → Sp (if 1000000000000000000 ≤ cell then cell else 0) ((cell * 863 + 524287 * i + 1) % 999999999989) := fun cell hc => ⟨by split <;> omega, Int.emod_nonneg _ (by decide), Int.emod_lt_of_pos _ (by decide)⟩
  have m1 := fun x : Int => b_mulr (i := x) (j := 863) (by decide)
  have m2 := fun x : Int => b_mull (i := 524287) (j := x) (by decide)
  have m3 := fun x : Int => b_mod (i := x) (j := 999999999989) (by decide)
  have fb := fun (x y : Int) => f_box (st := st) (ds := [.int x, .int y]) (by simp -implicitDefEqProofs [D.unders, D.under])
  rcases Classical.propComplete (i < (ns.length : Int)) with h | h
  · obtain ⟨z, hz⟩ := at_ints hi (of_eq_true h)
    refine ⟨_, _, key (if z < 0 then -z else z) (by split <;> omega), ?_⟩
    rw [call_eq (fn := f_law_spring) rfl rfl]
    rcases Classical.propComplete (1000000000000000000 ≤ (if z < 0 then -z else z)) with h2 | h2 <;>
      simp -implicitDefEqProofs only [f_law_spring, f_law_spring_x0, f_law_spring_x1, f_law_spring_x2, f_law_spring_x3, List.length_map, h, hz, m1, m2, m3, b_pow, h2, fb, r_din, r_din1, r_din2, r_din3, r_pop, r_pop1, r_gt, r_gt1, r_gt2, r_cat, r_cat1, r_cat2, r_cat3, r_sk, r_sk1, r_sk2, r_sk3, r_keys, r_keys1, r_items, r_items1, r_dcm, r_dcm1, r_dcm2, r_dcs, r_dcs1, r_dcs2, r_dcs3, r_dcs4, r_whl, r_dctB, v_rd_ro, r_var, r_glob, r_int, r_bl, r_non, r_str, r_tup, r_tup1, r_lst, r_lst0, r_lst1, r_dct, r_dct1, r_dct2, r_fn, r_bin, r_bin1, r_bin2, r_neg, r_neg1, r_not, r_not1, r_and, r_and1, r_or, r_or1, r_ite, r_ite1, r_kbl, r_cmp, r_cmp1, r_cmp2, r_chain, r_chain1, r_chain2, r_chain3, r_chain4, r_call, r_call1, r_prim, r_prim1, r_primB, r_primB1, r_new, r_sub, r_sub1, r_sub2, r_dsub, r_dsub1, r_dsub2, r_app, r_app1, r_app2, r_get, r_get1, r_get2, r_get3, r_frz, r_frz1, r_es0, r_es, r_es1, r_es2, r_ps0, r_ps, r_ps1, r_ps2, r_ps3, r_o0, r_o, r_o1, r_g0, r_g, r_g1, r_cut, r_cut0, r_cut1, r_cut2, r_comp, r_comp1, r_comp2, r_step, r_step1, r_step2, r_step3, r_walkL0, r_walkL, r_walkL1, r_seq, r_seq1, r_seq2, r_rng1, r_rng1a, r_rng2, r_rng2a, r_rng2b, r_in, r_zip, r_zip1, r_zip2, r_c, r_asg, r_asg1, r_nx, r_set, r_set1, r_set2, r_set3, r_st, r_expr, r_expr1, r_ret, r_ret1, r_if, r_if1, r_pass, r_ss0, r_ss, r_ss1, r_ss2, r_for, r_for1, r_fstep, r_for2, r_walkF0, r_walkF, r_walkF1, r_walkF2, v_rd_int, v_rd_bl, v_rd_str, v_rd_non, v_rd_tup, v_rd_lst, v_rd_dct, v_rR_int, v_rR_bl, v_rR_str, v_rR_non, v_rR_tup, v_rR_lst, v_rR_dct, v_rR_ro, v_rR_box, v_and, v_or, a_0, a_1, a_2, a_3, a_4, p_int, p_inti, p_lenl, p_lent, p_max, p_min, p_abs, p_all3, f_sd, f_w, p_isint, p_isinl, p_isini, p_isinb, p_isins, p_isinn, c_isn, c_isb, c_isi, c_iss, c_ist, c_isl, c_inl, c_int, b_add, b_sub, b_mul, b_mul0, b_mul1, b_w2, b_w3, v_rd_w, v_un_w, c_eqi, c_nei, c_eqs, c_lt, c_le, c_gt, c_ge, s_t, s_l, t_nm, t_tp, t_0, t_1, u_int, u_bl, u_str, u_non, u_tup, u_lst, u_0, u_1, u_s, l_5, l_4, l_3, l_2, l_1, l_0, n_0, n_1, n_2, n_3, n_4, n_5, n_6, n_7, n_8, n_9, n_10, n_11, n_12, m_0, m_1, m_2, m_3, m_4, m_5, m_6, m_7, m_8, m_9, m_10, m_11, m_12, m_13, m_14, m_15, m_16, i_23, eq_nn, eq_bb, eq_ll, beq_self_eq_true, isTy, fin_bl, fin_int, fin_tup, fin_lst, fin_nx, Option.bind_some, Option.map_some, List.map_cons, List.map_nil, List.length_cons, List.length_nil, List.replicate, List.getElem?_cons_zero, List.getElem?_cons_succ, List.set_cons_zero, List.set_cons_succ, List.cons_append, List.nil_append, List.append_nil, Nat.sub_self, List.take_length, Bool.false_eq_true, reduceIte, Bool.and_true, Bool.true_and, Bool.not_true, Bool.not_false, Bool.false_and, Bool.and_false, Nat.reduceSub, List.replicate_succ, List.replicate_zero, Nat.succ_sub_succ, decide_true, decide_false, Int.reduceEq, Int.reduceLT, Int.reduceLE, Int.reduceNeg, Int.reduceGT, gt_iff_lt, ge_iff_le, Bool.and_assoc, List.any_cons, List.any_nil, Bool.or_true, Bool.true_or, Bool.or_false, Bool.false_or]
  · refine ⟨_, _, key 7 (by decide), ?_⟩
    rw [call_eq (fn := f_law_spring) rfl rfl]
    simp -implicitDefEqProofs only [f_law_spring, f_law_spring_x0, f_law_spring_x1, f_law_spring_x2, f_law_spring_x3, List.length_map, h, m1, m2, m3, b_pow, fb, r_din, r_din1, r_din2, r_din3, r_pop, r_pop1, r_gt, r_gt1, r_gt2, r_cat, r_cat1, r_cat2, r_cat3, r_sk, r_sk1, r_sk2, r_sk3, r_keys, r_keys1, r_items, r_items1, r_dcm, r_dcm1, r_dcm2, r_dcs, r_dcs1, r_dcs2, r_dcs3, r_dcs4, r_whl, r_dctB, v_rd_ro, r_var, r_glob, r_int, r_bl, r_non, r_str, r_tup, r_tup1, r_lst, r_lst0, r_lst1, r_dct, r_dct1, r_dct2, r_fn, r_bin, r_bin1, r_bin2, r_neg, r_neg1, r_not, r_not1, r_and, r_and1, r_or, r_or1, r_ite, r_ite1, r_kbl, r_cmp, r_cmp1, r_cmp2, r_chain, r_chain1, r_chain2, r_chain3, r_chain4, r_call, r_call1, r_prim, r_prim1, r_primB, r_primB1, r_new, r_sub, r_sub1, r_sub2, r_dsub, r_dsub1, r_dsub2, r_app, r_app1, r_app2, r_get, r_get1, r_get2, r_get3, r_frz, r_frz1, r_es0, r_es, r_es1, r_es2, r_ps0, r_ps, r_ps1, r_ps2, r_ps3, r_o0, r_o, r_o1, r_g0, r_g, r_g1, r_cut, r_cut0, r_cut1, r_cut2, r_comp, r_comp1, r_comp2, r_step, r_step1, r_step2, r_step3, r_walkL0, r_walkL, r_walkL1, r_seq, r_seq1, r_seq2, r_rng1, r_rng1a, r_rng2, r_rng2a, r_rng2b, r_in, r_zip, r_zip1, r_zip2, r_c, r_asg, r_asg1, r_nx, r_set, r_set1, r_set2, r_set3, r_st, r_expr, r_expr1, r_ret, r_ret1, r_if, r_if1, r_pass, r_ss0, r_ss, r_ss1, r_ss2, r_for, r_for1, r_fstep, r_for2, r_walkF0, r_walkF, r_walkF1, r_walkF2, v_rd_int, v_rd_bl, v_rd_str, v_rd_non, v_rd_tup, v_rd_lst, v_rd_dct, v_rR_int, v_rR_bl, v_rR_str, v_rR_non, v_rR_tup, v_rR_lst, v_rR_dct, v_rR_ro, v_rR_box, v_and, v_or, a_0, a_1, a_2, a_3, a_4, p_int, p_inti, p_lenl, p_lent, p_max, p_min, p_abs, p_all3, f_sd, f_w, p_isint, p_isinl, p_isini, p_isinb, p_isins, p_isinn, c_isn, c_isb, c_isi, c_iss, c_ist, c_isl, c_inl, c_int, b_add, b_sub, b_mul, b_mul0, b_mul1, b_w2, b_w3, v_rd_w, v_un_w, c_eqi, c_nei, c_eqs, c_lt, c_le, c_gt, c_ge, s_t, s_l, t_nm, t_tp, t_0, t_1, u_int, u_bl, u_str, u_non, u_tup, u_lst, u_0, u_1, u_s, l_5, l_4, l_3, l_2, l_1, l_0, n_0, n_1, n_2, n_3, n_4, n_5, n_6, n_7, n_8, n_9, n_10, n_11, n_12, m_0, m_1, m_2, m_3, m_4, m_5, m_6, m_7, m_8, m_9, m_10, m_11, m_12, m_13, m_14, m_15, m_16, i_23, eq_nn, eq_bb, eq_ll, beq_self_eq_true, isTy, fin_bl, fin_int, fin_tup, fin_lst, fin_nx, Option.bind_some, Option.map_some, List.map_cons, List.map_nil, List.length_cons, List.length_nil, List.replicate, List.getElem?_cons_zero, List.getElem?_cons_succ, List.set_cons_zero, List.set_cons_succ, List.cons_append, List.nil_append, List.append_nil, Nat.sub_self, List.take_length, Bool.false_eq_true, reduceIte, Bool.and_true, Bool.true_and, Bool.not_true, Bool.not_false, Bool.false_and, Bool.and_false, Nat.reduceSub, List.replicate_succ, List.replicate_zero, Nat.succ_sub_succ, decide_true, decide_false, Int.reduceEq, Int.reduceLT, Int.reduceLE, Int.reduceNeg, Int.reduceGT, gt_iff_lt, ge_iff_le, Bool.and_assoc, List.any_cons, List.any_nil, Bool.or_true, Bool.true_or, Bool.or_false, Bool.false_or]
theorem ev_pick (fuel k : Nat) (n : Nat) (a b many : Int) (st : Store) (hn : n < st.length) (hs : st[n]? = some (.lst [.int a, .int b])) (hp : Sp a b) (h0 : 0 < many) (h1 : many < 1000000000) :
    ∃ d a' b', 0 ≤ d ∧ d < many ∧ Sp a' b' ∧ evCall T fuel (k + 1) 17 [.box n, .int many] st = some (.int d, st.set n (.lst [.int a', .int b'])) := by
  obtain ⟨p1, p2, p3⟩ := hp
  have r0 := rd_at hs
  have m1 := b_mulr (i := b) (j := 393555900739) (by decide)
  have m3 := fun x : Int => b_mod (i := x) (j := 999999999989) (by decide)
  have m4 := fun x : Int => b_mod (i := x) (j := many) h0
  have m5 := fun x : Int => b_div (i := x) (j := many) ⟨h0, by omega⟩
  have m6 := fun x : Int => b_div (i := x) (j := 4093) (by decide)
  have s0 := fun x : Int => set_0 (base := st.length) (i := x) hs
  have s1 := fun x : Int => set_1 (base := st.length) (i := x) hs
  rcases Classical.propComplete (0 < a) with h | h
  · refine ⟨a % many, a / many, b, Int.emod_nonneg _ (by omega), Int.emod_lt_of_pos _ h0, ⟨Int.ediv_nonneg p1 (by omega), p2, p3⟩, ?_⟩
    rw [call_eq (fn := f_law_pick) rfl rfl]
    simp -implicitDefEqProofs only [f_law_pick, f_law_pick_x0, f_law_pick_x1, f_law_pick_x2, r0, h, m4, m5, s0, tk_set, r_din, r_din1, r_din2, r_din3, r_pop, r_pop1, r_gt, r_gt1, r_gt2, r_cat, r_cat1, r_cat2, r_cat3, r_sk, r_sk1, r_sk2, r_sk3, r_keys, r_keys1, r_items, r_items1, r_dcm, r_dcm1, r_dcm2, r_dcs, r_dcs1, r_dcs2, r_dcs3, r_dcs4, r_whl, r_dctB, v_rd_ro, r_var, r_glob, r_int, r_bl, r_non, r_str, r_tup, r_tup1, r_lst, r_lst0, r_lst1, r_dct, r_dct1, r_dct2, r_fn, r_bin, r_bin1, r_bin2, r_neg, r_neg1, r_not, r_not1, r_and, r_and1, r_or, r_or1, r_ite, r_ite1, r_kbl, r_cmp, r_cmp1, r_cmp2, r_chain, r_chain1, r_chain2, r_chain3, r_chain4, r_call, r_call1, r_prim, r_prim1, r_primB, r_primB1, r_new, r_sub, r_sub1, r_sub2, r_dsub, r_dsub1, r_dsub2, r_app, r_app1, r_app2, r_get, r_get1, r_get2, r_get3, r_frz, r_frz1, r_es0, r_es, r_es1, r_es2, r_ps0, r_ps, r_ps1, r_ps2, r_ps3, r_o0, r_o, r_o1, r_g0, r_g, r_g1, r_cut, r_cut0, r_cut1, r_cut2, r_comp, r_comp1, r_comp2, r_step, r_step1, r_step2, r_step3, r_walkL0, r_walkL, r_walkL1, r_seq, r_seq1, r_seq2, r_rng1, r_rng1a, r_rng2, r_rng2a, r_rng2b, r_in, r_zip, r_zip1, r_zip2, r_c, r_asg, r_asg1, r_nx, r_set, r_set1, r_set2, r_set3, r_st, r_expr, r_expr1, r_ret, r_ret1, r_if, r_if1, r_pass, r_ss0, r_ss, r_ss1, r_ss2, r_for, r_for1, r_fstep, r_for2, r_walkF0, r_walkF, r_walkF1, r_walkF2, v_rd_int, v_rd_bl, v_rd_str, v_rd_non, v_rd_tup, v_rd_lst, v_rd_dct, v_rR_int, v_rR_bl, v_rR_str, v_rR_non, v_rR_tup, v_rR_lst, v_rR_dct, v_rR_ro, v_rR_box, v_and, v_or, a_0, a_1, a_2, a_3, a_4, p_int, p_inti, p_lenl, p_lent, p_max, p_min, p_abs, p_all3, f_sd, f_w, p_isint, p_isinl, p_isini, p_isinb, p_isins, p_isinn, c_isn, c_isb, c_isi, c_iss, c_ist, c_isl, c_inl, c_int, b_add, b_sub, b_mul, b_mul0, b_mul1, b_w2, b_w3, v_rd_w, v_un_w, c_eqi, c_nei, c_eqs, c_lt, c_le, c_gt, c_ge, s_t, s_l, t_nm, t_tp, t_0, t_1, u_int, u_bl, u_str, u_non, u_tup, u_lst, u_0, u_1, u_s, l_5, l_4, l_3, l_2, l_1, l_0, n_0, n_1, n_2, n_3, n_4, n_5, n_6, n_7, n_8, n_9, n_10, n_11, n_12, m_0, m_1, m_2, m_3, m_4, m_5, m_6, m_7, m_8, m_9, m_10, m_11, m_12, m_13, m_14, m_15, m_16, i_23, eq_nn, eq_bb, eq_ll, beq_self_eq_true, isTy, fin_bl, fin_int, fin_tup, fin_lst, fin_nx, Option.bind_some, Option.map_some, List.map_cons, List.map_nil, List.length_cons, List.length_nil, List.replicate, List.getElem?_cons_zero, List.getElem?_cons_succ, List.set_cons_zero, List.set_cons_succ, List.cons_append, List.nil_append, List.append_nil, Nat.sub_self, List.take_length, Bool.false_eq_true, reduceIte, Bool.and_true, Bool.true_and, Bool.not_true, Bool.not_false, Bool.false_and, Bool.and_false, Nat.reduceSub, List.replicate_succ, List.replicate_zero, Nat.succ_sub_succ, decide_true, decide_false, Int.reduceEq, Int.reduceLT, Int.reduceLE, Int.reduceNeg, Int.reduceGT, gt_iff_lt, ge_iff_le, Bool.and_assoc, List.any_cons, List.any_nil, Bool.or_true, Bool.true_or, Bool.or_false, Bool.false_or]
  · refine ⟨((b * 393555900739 + 8191) % 999999999989) / 4093 % many, a, (b * 393555900739 + 8191) % 999999999989, Int.emod_nonneg _ (by omega), Int.emod_lt_of_pos _ h0, ⟨p1, Int.emod_nonneg _ (by decide), Int.emod_lt_of_pos _ (by decide)⟩, ?_⟩
    rw [call_eq (fn := f_law_pick) rfl rfl]
    simp -implicitDefEqProofs only [f_law_pick, f_law_pick_x0, f_law_pick_x1, f_law_pick_x2, r0, h, m1, m3, m4, m6, s1, tk_set, rd_set hn, r_din, r_din1, r_din2, r_din3, r_pop, r_pop1, r_gt, r_gt1, r_gt2, r_cat, r_cat1, r_cat2, r_cat3, r_sk, r_sk1, r_sk2, r_sk3, r_keys, r_keys1, r_items, r_items1, r_dcm, r_dcm1, r_dcm2, r_dcs, r_dcs1, r_dcs2, r_dcs3, r_dcs4, r_whl, r_dctB, v_rd_ro, r_var, r_glob, r_int, r_bl, r_non, r_str, r_tup, r_tup1, r_lst, r_lst0, r_lst1, r_dct, r_dct1, r_dct2, r_fn, r_bin, r_bin1, r_bin2, r_neg, r_neg1, r_not, r_not1, r_and, r_and1, r_or, r_or1, r_ite, r_ite1, r_kbl, r_cmp, r_cmp1, r_cmp2, r_chain, r_chain1, r_chain2, r_chain3, r_chain4, r_call, r_call1, r_prim, r_prim1, r_primB, r_primB1, r_new, r_sub, r_sub1, r_sub2, r_dsub, r_dsub1, r_dsub2, r_app, r_app1, r_app2, r_get, r_get1, r_get2, r_get3, r_frz, r_frz1, r_es0, r_es, r_es1, r_es2, r_ps0, r_ps, r_ps1, r_ps2, r_ps3, r_o0, r_o, r_o1, r_g0, r_g, r_g1, r_cut, r_cut0, r_cut1, r_cut2, r_comp, r_comp1, r_comp2, r_step, r_step1, r_step2, r_step3, r_walkL0, r_walkL, r_walkL1, r_seq, r_seq1, r_seq2, r_rng1, r_rng1a, r_rng2, r_rng2a, r_rng2b, r_in, r_zip, r_zip1, r_zip2, r_c, r_asg, r_asg1, r_nx, r_set, r_set1, r_set2, r_set3, r_st, r_expr, r_expr1, r_ret, r_ret1, r_if, r_if1, r_pass, r_ss0, r_ss, r_ss1, r_ss2, r_for, r_for1, r_fstep, r_for2, r_walkF0, r_walkF, r_walkF1, r_walkF2, v_rd_int, v_rd_bl, v_rd_str, v_rd_non, v_rd_tup, v_rd_lst, v_rd_dct, v_rR_int, v_rR_bl, v_rR_str, v_rR_non, v_rR_tup, v_rR_lst, v_rR_dct, v_rR_ro, v_rR_box, v_and, v_or, a_0, a_1, a_2, a_3, a_4, p_int, p_inti, p_lenl, p_lent, p_max, p_min, p_abs, p_all3, f_sd, f_w, p_isint, p_isinl, p_isini, p_isinb, p_isins, p_isinn, c_isn, c_isb, c_isi, c_iss, c_ist, c_isl, c_inl, c_int, b_add, b_sub, b_mul, b_mul0, b_mul1, b_w2, b_w3, v_rd_w, v_un_w, c_eqi, c_nei, c_eqs, c_lt, c_le, c_gt, c_ge, s_t, s_l, t_nm, t_tp, t_0, t_1, u_int, u_bl, u_str, u_non, u_tup, u_lst, u_0, u_1, u_s, l_5, l_4, l_3, l_2, l_1, l_0, n_0, n_1, n_2, n_3, n_4, n_5, n_6, n_7, n_8, n_9, n_10, n_11, n_12, m_0, m_1, m_2, m_3, m_4, m_5, m_6, m_7, m_8, m_9, m_10, m_11, m_12, m_13, m_14, m_15, m_16, i_23, eq_nn, eq_bb, eq_ll, beq_self_eq_true, isTy, fin_bl, fin_int, fin_tup, fin_lst, fin_nx, Option.bind_some, Option.map_some, List.map_cons, List.map_nil, List.length_cons, List.length_nil, List.replicate, List.getElem?_cons_zero, List.getElem?_cons_succ, List.set_cons_zero, List.set_cons_succ, List.cons_append, List.nil_append, List.append_nil, Nat.sub_self, List.take_length, Bool.false_eq_true, reduceIte, Bool.and_true, Bool.true_and, Bool.not_true, Bool.not_false, Bool.false_and, Bool.and_false, Nat.reduceSub, List.replicate_succ, List.replicate_zero, Nat.succ_sub_succ, decide_true, decide_false, Int.reduceEq, Int.reduceLT, Int.reduceLE, Int.reduceNeg, Int.reduceGT, gt_iff_lt, ge_iff_le, Bool.and_assoc, List.any_cons, List.any_nil, Bool.or_true, Bool.true_or, Bool.or_false, Bool.false_or]
theorem ev_program_of (fuel k : Nat) (n : Nat) (a b lift : Int) (st : Store) (hl : 1 ≤ lift ∧ lift ≤ 3) (hn : n < st.length) (hs : st[n]? = some (.lst [.int a, .int b])) (hp : Sp a b) :
    ∃ (p : Plan) (a' b' : Int), p.lift = lift ∧ p.Ok ∧ Sp a' b' ∧ evCall T fuel (k + 2) 20 [.box n] st = some (p.pd, st.set n (.lst [.int a', .int b'])) := by
  obtain ⟨d1, a1, b1, l1, u1, p1, e1⟩ := ev_pick fuel k n a b 3 st hn hs hp (by decide) (by decide)
  obtain ⟨d2, a2, b2, l2, u2, p2, e2⟩ := ev_pick fuel k n a1 b1 3 _ (by simpa using hn) (at_set hn) p1 (by decide) (by decide)
  obtain ⟨d3, a3, b3, l3, u3, p3, e3⟩ := ev_pick fuel k n a2 b2 2 _ (by simpa using hn) (at_set (by simpa using hn)) p2 (by decide) (by decide)
  obtain ⟨d4, a4, b4, l4, u4, p4, e4⟩ := ev_pick fuel k n a3 b3 4 _ (by simpa using hn) (at_set (by simpa using hn)) p3 (by decide) (by decide)
  obtain ⟨d5, a5, b5, l5, u5, p5, e5⟩ := ev_pick fuel k n a4 b4 3 _ (by simpa using hn) (at_set (by simpa using hn)) p4 (by decide) (by decide)
  simp -implicitDefEqProofs only [List.set_set] at e1 e2 e3 e4 e5
  have hr : ∃ r : Rs, atD [.str s_other, .str s_same, .str s_up] d1 = some (.str r.s) := by
    have : d1 = 0 ∨ d1 = 1 ∨ d1 = 2 := by omega
    rcases this with rfl | rfl | rfl
    · exact ⟨.other, rfl⟩
    · exact ⟨.same, rfl⟩
    · exact ⟨.up, rfl⟩
  have hw : ∃ r : Wy, atD [.str s_moves, .str s_none, .str s_open] d2 = some (.str r.s) := by
    have : d2 = 0 ∨ d2 = 1 ∨ d2 = 2 := by omega
    rcases this with rfl | rfl | rfl
    · exact ⟨.moves, rfl⟩
    · exact ⟨.none, rfl⟩
    · exact ⟨.opn, rfl⟩
  obtain ⟨r, hr⟩ := hr
  obtain ⟨w, hw⟩ := hw
  refine ⟨⟨lift, r, decide (d3 = 0), d4, w, decide (0 < d5)⟩, a5, b5, rfl, ⟨hl.1, hl.2, l4, by show d4 ≤ 3; omega⟩, p5, ?_⟩
  rw [call_eq (fn := f_law_program) rfl rfl]
  simp -implicitDefEqProofs only [f_law_program, f_law_program_x0, f_law_program_x1, f_law_program_x2, f_law_program_x3, e1, e2, e3, e4, e5, hr, hw, tk_set, Plan.pd, r_din, r_din1, r_din2, r_din3, r_pop, r_pop1, r_gt, r_gt1, r_gt2, r_cat, r_cat1, r_cat2, r_cat3, r_sk, r_sk1, r_sk2, r_sk3, r_keys, r_keys1, r_items, r_items1, r_dcm, r_dcm1, r_dcm2, r_dcs, r_dcs1, r_dcs2, r_dcs3, r_dcs4, r_whl, r_dctB, v_rd_ro, r_var, r_glob, r_int, r_bl, r_non, r_str, r_tup, r_tup1, r_lst, r_lst0, r_lst1, r_dct, r_dct1, r_dct2, r_fn, r_bin, r_bin1, r_bin2, r_neg, r_neg1, r_not, r_not1, r_and, r_and1, r_or, r_or1, r_ite, r_ite1, r_kbl, r_cmp, r_cmp1, r_cmp2, r_chain, r_chain1, r_chain2, r_chain3, r_chain4, r_call, r_call1, r_prim, r_prim1, r_primB, r_primB1, r_new, r_sub, r_sub1, r_sub2, r_dsub, r_dsub1, r_dsub2, r_app, r_app1, r_app2, r_get, r_get1, r_get2, r_get3, r_frz, r_frz1, r_es0, r_es, r_es1, r_es2, r_ps0, r_ps, r_ps1, r_ps2, r_ps3, r_o0, r_o, r_o1, r_g0, r_g, r_g1, r_cut, r_cut0, r_cut1, r_cut2, r_comp, r_comp1, r_comp2, r_step, r_step1, r_step2, r_step3, r_walkL0, r_walkL, r_walkL1, r_seq, r_seq1, r_seq2, r_rng1, r_rng1a, r_rng2, r_rng2a, r_rng2b, r_in, r_zip, r_zip1, r_zip2, r_c, r_asg, r_asg1, r_nx, r_set, r_set1, r_set2, r_set3, r_st, r_expr, r_expr1, r_ret, r_ret1, r_if, r_if1, r_pass, r_ss0, r_ss, r_ss1, r_ss2, r_for, r_for1, r_fstep, r_for2, r_walkF0, r_walkF, r_walkF1, r_walkF2, v_rd_int, v_rd_bl, v_rd_str, v_rd_non, v_rd_tup, v_rd_lst, v_rd_dct, v_rR_int, v_rR_bl, v_rR_str, v_rR_non, v_rR_tup, v_rR_lst, v_rR_dct, v_rR_ro, v_rR_box, v_and, v_or, a_0, a_1, a_2, a_3, a_4, p_int, p_inti, p_lenl, p_lent, p_max, p_min, p_abs, p_all3, f_sd, f_w, p_isint, p_isinl, p_isini, p_isinb, p_isins, p_isinn, c_isn, c_isb, c_isi, c_iss, c_ist, c_isl, c_inl, c_int, b_add, b_sub, b_mul, b_mul0, b_mul1, b_w2, b_w3, v_rd_w, v_un_w, c_eqi, c_nei, c_eqs, c_lt, c_le, c_gt, c_ge, s_t, s_l, t_nm, t_tp, t_0, t_1, u_int, u_bl, u_str, u_non, u_tup, u_lst, u_0, u_1, u_s, l_5, l_4, l_3, l_2, l_1, l_0, n_0, n_1, n_2, n_3, n_4, n_5, n_6, n_7, n_8, n_9, n_10, n_11, n_12, m_0, m_1, m_2, m_3, m_4, m_5, m_6, m_7, m_8, m_9, m_10, m_11, m_12, m_13, m_14, m_15, m_16, i_23, eq_nn, eq_bb, eq_ll, beq_self_eq_true, isTy, fin_bl, fin_int, fin_tup, fin_lst, fin_nx, Option.bind_some, Option.map_some, List.map_cons, List.map_nil, List.length_cons, List.length_nil, List.replicate, List.getElem?_cons_zero, List.getElem?_cons_succ, List.set_cons_zero, List.set_cons_succ, List.cons_append, List.nil_append, List.append_nil, Nat.sub_self, List.take_length, Bool.false_eq_true, reduceIte, Bool.and_true, Bool.true_and, Bool.not_true, Bool.not_false, Bool.false_and, Bool.and_false, Nat.reduceSub, List.replicate_succ, List.replicate_zero, Nat.succ_sub_succ, decide_true, decide_false, Int.reduceEq, Int.reduceLT, Int.reduceLE, Int.reduceNeg, Int.reduceGT, gt_iff_lt, ge_iff_le, Bool.and_assoc, List.any_cons, List.any_nil, Bool.or_true, Bool.true_or, Bool.or_false, Bool.false_or]
theorem ev_plan_of (fuel k : Nat) (n : Nat) (a b : Int) (st : Store) (hn : n < st.length) (hs : st[n]? = some (.lst [.int a, .int b])) (hp : Sp a b) :
    ∃ (p : Plan) (a' b' : Int), p.Ok ∧ Sp a' b' ∧ evCall T fuel (k + 3) 21 [.box n] st = some (p.d, st.set n (.lst [.int a', .int b'])) := by
  obtain ⟨d1, a1, b1, l1, u1, p1, e1⟩ := ev_pick fuel (k + 1) n a b 4 st hn hs hp (by decide) (by decide)
  have hl : ∃ l : Int, (1 ≤ l ∧ l ≤ 3) ∧ atD [.int 1, .int 2, .int 2, .int 3] d1 = some (.int l) := by
    have : d1 = 0 ∨ d1 = 1 ∨ d1 = 2 ∨ d1 = 3 := by omega
    rcases this with rfl | rfl | rfl | rfl
    · exact ⟨1, by decide, rfl⟩
    · exact ⟨2, by decide, rfl⟩
    · exact ⟨2, by decide, rfl⟩
    · exact ⟨3, by decide, rfl⟩
  obtain ⟨l, hl1, hl⟩ := hl
  obtain ⟨p, a2, b2, q1, q2, q3, e2⟩ := ev_program_of fuel k n a1 b1 l _ hl1 (by simpa using hn) (at_set hn) p1
  simp -implicitDefEqProofs only [List.set_set] at e2
  refine ⟨p, a2, b2, q2, q3, ?_⟩
  rw [call_eq (fn := f_law_plan) rfl rfl]
  have hu : D.under st.length p.pd = true := by simp -implicitDefEqProofs [Plan.pd, D.under, D.unders]
  simp -implicitDefEqProofs only [f_law_plan, f_law_plan_x0, e1, e2, hl, tk_set, Plan.d, q1, hu, r_din, r_din1, r_din2, r_din3, r_pop, r_pop1, r_gt, r_gt1, r_gt2, r_cat, r_cat1, r_cat2, r_cat3, r_sk, r_sk1, r_sk2, r_sk3, r_keys, r_keys1, r_items, r_items1, r_dcm, r_dcm1, r_dcm2, r_dcs, r_dcs1, r_dcs2, r_dcs3, r_dcs4, r_whl, r_dctB, v_rd_ro, r_var, r_glob, r_int, r_bl, r_non, r_str, r_tup, r_tup1, r_lst, r_lst0, r_lst1, r_dct, r_dct1, r_dct2, r_fn, r_bin, r_bin1, r_bin2, r_neg, r_neg1, r_not, r_not1, r_and, r_and1, r_or, r_or1, r_ite, r_ite1, r_kbl, r_cmp, r_cmp1, r_cmp2, r_chain, r_chain1, r_chain2, r_chain3, r_chain4, r_call, r_call1, r_prim, r_prim1, r_primB, r_primB1, r_new, r_sub, r_sub1, r_sub2, r_dsub, r_dsub1, r_dsub2, r_app, r_app1, r_app2, r_get, r_get1, r_get2, r_get3, r_frz, r_frz1, r_es0, r_es, r_es1, r_es2, r_ps0, r_ps, r_ps1, r_ps2, r_ps3, r_o0, r_o, r_o1, r_g0, r_g, r_g1, r_cut, r_cut0, r_cut1, r_cut2, r_comp, r_comp1, r_comp2, r_step, r_step1, r_step2, r_step3, r_walkL0, r_walkL, r_walkL1, r_seq, r_seq1, r_seq2, r_rng1, r_rng1a, r_rng2, r_rng2a, r_rng2b, r_in, r_zip, r_zip1, r_zip2, r_c, r_asg, r_asg1, r_nx, r_set, r_set1, r_set2, r_set3, r_st, r_expr, r_expr1, r_ret, r_ret1, r_if, r_if1, r_pass, r_ss0, r_ss, r_ss1, r_ss2, r_for, r_for1, r_fstep, r_for2, r_walkF0, r_walkF, r_walkF1, r_walkF2, v_rd_int, v_rd_bl, v_rd_str, v_rd_non, v_rd_tup, v_rd_lst, v_rd_dct, v_rR_int, v_rR_bl, v_rR_str, v_rR_non, v_rR_tup, v_rR_lst, v_rR_dct, v_rR_ro, v_rR_box, v_and, v_or, a_0, a_1, a_2, a_3, a_4, p_int, p_inti, p_lenl, p_lent, p_max, p_min, p_abs, p_all3, f_sd, f_w, p_isint, p_isinl, p_isini, p_isinb, p_isins, p_isinn, c_isn, c_isb, c_isi, c_iss, c_ist, c_isl, c_inl, c_int, b_add, b_sub, b_mul, b_mul0, b_mul1, b_w2, b_w3, v_rd_w, v_un_w, c_eqi, c_nei, c_eqs, c_lt, c_le, c_gt, c_ge, s_t, s_l, t_nm, t_tp, t_0, t_1, u_int, u_bl, u_str, u_non, u_tup, u_lst, u_0, u_1, u_s, l_5, l_4, l_3, l_2, l_1, l_0, n_0, n_1, n_2, n_3, n_4, n_5, n_6, n_7, n_8, n_9, n_10, n_11, n_12, m_0, m_1, m_2, m_3, m_4, m_5, m_6, m_7, m_8, m_9, m_10, m_11, m_12, m_13, m_14, m_15, m_16, i_23, eq_nn, eq_bb, eq_ll, beq_self_eq_true, isTy, fin_bl, fin_int, fin_tup, fin_lst, fin_nx, Option.bind_some, Option.map_some, List.map_cons, List.map_nil, List.length_cons, List.length_nil, List.replicate, List.getElem?_cons_zero, List.getElem?_cons_succ, List.set_cons_zero, List.set_cons_succ, List.cons_append, List.nil_append, List.append_nil, Nat.sub_self, List.take_length, Bool.false_eq_true, reduceIte, Bool.and_true, Bool.true_and, Bool.not_true, Bool.not_false, Bool.false_and, Bool.and_false, Nat.reduceSub, List.replicate_succ, List.replicate_zero, Nat.succ_sub_succ, decide_true, decide_false, Int.reduceEq, Int.reduceLT, Int.reduceLE, Int.reduceNeg, Int.reduceGT, gt_iff_lt, ge_iff_le, Bool.and_assoc, List.any_cons, List.any_nil, Bool.or_true, Bool.true_or, Bool.or_false, Bool.false_or]
theorem ev_all_choices (fuel k : Nat) (st : Store) : evCall T fuel (k + 1) 26 [] st = some (.lst (allChoices.map Choice.d), st) := by
  rw [call_eq (fn := f_law_all_choices) rfl rfl]
  have d4 := fun x : Int => b_div (i := x) (j := 4) (by decide)
  have d2 := fun x : Int => b_div (i := x) (j := 2) (by decide)
  have m2 := fun x : Int => b_mod (i := x) (j := 2) (by decide)
  simp -implicitDefEqProofs only [f_law_all_choices, f_law_all_choices_x0, f_law_all_choices_x1, f_law_all_choices_x2, rng8, isLB_last, app_last, frz_last, tk_last, d4, d2, m2, allChoices, Choice.d, Int.reduceDiv, Int.reduceMod, r_din, r_din1, r_din2, r_din3, r_pop, r_pop1, r_gt, r_gt1, r_gt2, r_cat, r_cat1, r_cat2, r_cat3, r_sk, r_sk1, r_sk2, r_sk3, r_keys, r_keys1, r_items, r_items1, r_dcm, r_dcm1, r_dcm2, r_dcs, r_dcs1, r_dcs2, r_dcs3, r_dcs4, r_whl, r_dctB, v_rd_ro, r_var, r_glob, r_int, r_bl, r_non, r_str, r_tup, r_tup1, r_lst, r_lst0, r_lst1, r_dct, r_dct1, r_dct2, r_fn, r_bin, r_bin1, r_bin2, r_neg, r_neg1, r_not, r_not1, r_and, r_and1, r_or, r_or1, r_ite, r_ite1, r_kbl, r_cmp, r_cmp1, r_cmp2, r_chain, r_chain1, r_chain2, r_chain3, r_chain4, r_call, r_call1, r_prim, r_prim1, r_primB, r_primB1, r_new, r_sub, r_sub1, r_sub2, r_dsub, r_dsub1, r_dsub2, r_app, r_app1, r_app2, r_get, r_get1, r_get2, r_get3, r_frz, r_frz1, r_es0, r_es, r_es1, r_es2, r_ps0, r_ps, r_ps1, r_ps2, r_ps3, r_o0, r_o, r_o1, r_g0, r_g, r_g1, r_cut, r_cut0, r_cut1, r_cut2, r_comp, r_comp1, r_comp2, r_step, r_step1, r_step2, r_step3, r_walkL0, r_walkL, r_walkL1, r_seq, r_seq1, r_seq2, r_rng1, r_rng1a, r_rng2, r_rng2a, r_rng2b, r_in, r_zip, r_zip1, r_zip2, r_c, r_asg, r_asg1, r_nx, r_set, r_set1, r_set2, r_set3, r_st, r_expr, r_expr1, r_ret, r_ret1, r_if, r_if1, r_pass, r_ss0, r_ss, r_ss1, r_ss2, r_for, r_for1, r_fstep, r_for2, r_walkF0, r_walkF, r_walkF1, r_walkF2, v_rd_int, v_rd_bl, v_rd_str, v_rd_non, v_rd_tup, v_rd_lst, v_rd_dct, v_rR_int, v_rR_bl, v_rR_str, v_rR_non, v_rR_tup, v_rR_lst, v_rR_dct, v_rR_ro, v_rR_box, v_and, v_or, a_0, a_1, a_2, a_3, a_4, p_int, p_inti, p_lenl, p_lent, p_max, p_min, p_abs, p_all3, f_sd, f_w, p_isint, p_isinl, p_isini, p_isinb, p_isins, p_isinn, c_isn, c_isb, c_isi, c_iss, c_ist, c_isl, c_inl, c_int, b_add, b_sub, b_mul, b_mul0, b_mul1, b_w2, b_w3, v_rd_w, v_un_w, c_eqi, c_nei, c_eqs, c_lt, c_le, c_gt, c_ge, s_t, s_l, t_nm, t_tp, t_0, t_1, u_int, u_bl, u_str, u_non, u_tup, u_lst, u_0, u_1, u_s, l_5, l_4, l_3, l_2, l_1, l_0, n_0, n_1, n_2, n_3, n_4, n_5, n_6, n_7, n_8, n_9, n_10, n_11, n_12, m_0, m_1, m_2, m_3, m_4, m_5, m_6, m_7, m_8, m_9, m_10, m_11, m_12, m_13, m_14, m_15, m_16, i_23, eq_nn, eq_bb, eq_ll, beq_self_eq_true, isTy, fin_bl, fin_int, fin_tup, fin_lst, fin_nx, Option.bind_some, Option.map_some, List.map_cons, List.map_nil, List.length_cons, List.length_nil, List.replicate, List.getElem?_cons_zero, List.getElem?_cons_succ, List.set_cons_zero, List.set_cons_succ, List.cons_append, List.nil_append, List.append_nil, Nat.sub_self, List.take_length, Bool.false_eq_true, reduceIte, Bool.and_true, Bool.true_and, Bool.not_true, Bool.not_false, Bool.false_and, Bool.and_false, Nat.reduceSub, List.replicate_succ, List.replicate_zero, Nat.succ_sub_succ, decide_true, decide_false, Int.reduceEq, Int.reduceLT, Int.reduceLE, Int.reduceNeg, Int.reduceGT, gt_iff_lt, ge_iff_le, Bool.and_assoc, List.any_cons, List.any_nil, Bool.or_true, Bool.true_or, Bool.or_false, Bool.false_or]
theorem ev_choices_of (fuel k : Nat) (st : Store) : evCall T fuel (k + 1) 10 [] st = some (.lst (allChoices.map Choice.d), st) := by
  have e : evCall T fuel (k + 1) 10 [] st = some (.lst (allChoices.map Choice.d), List.take st.length st) := by kernel_rfl
  rw [e, List.take_length]
theorem ways_choice (fuel k fu : Nat) (p : Plan) (hp : p.Ok) (st : Store) (i : D) (s : Stand) (r : List Choice) : ∀ (cs : List Choice) (W : List (Stand × List Choice)) (x5 x6 : Option D), GdP p W → (s, r) ∈ W →
    ∃ y5 y6, walkF (fStep ⟨evCall T fuel (k + 3), st.length, fu⟩ (.name 5) [.asg (.name 6) (.sub (.call 9 [.var 0, .var 4, .var 5]) (.int 0)),
      .ite (.din true (.var 6) (.var 1))
        [.setK (.var 1) (.var 6) (.bin .add (.dsub (.var 1) (.var 4)) (.tup [.var 5])),
        .expr (.append (.var 2) (.var 6))]
        []]) (cs.map Choice.d) [some p.d, some (.box st.length), some (.box (st.length + 1)), some i, some s.d, x5, x6] (st ++ [.dct true (kys Stand.d W) (vls runD W), .lst (kys Stand.d W)]) =
      some (.nx [some p.d, some (.box st.length), some (.box (st.length + 1)), some i, some s.d, y5, y6], st ++ [.dct true (kys Stand.d (cs.foldl (addW (nxS p) s r) W)) (vls runD (cs.foldl (addW (nxS p) s r) W)), .lst (kys Stand.d (cs.foldl (addW (nxS p) s r) W))])
  | [], W, x5, x6, g, hm => ⟨x5, x6, rfl⟩
  | c :: cs, W, x5, x6, g, hm => by
    obtain ⟨y5, y6, ih⟩ := ways_choice fuel k fu p hp st i s r cs (addW (nxS p) s r W c) (some c.d) (some (nxS p s c).d) (g.add hp hm c) (addW_mem hm)
    refine ⟨y5, y6, ?_⟩
    have e1 := fun st => ev_passed fuel k p s c st
    have few := g.few hp
    have hdin := fun vs => din_w kd_stand (nxS p s c) W (vs := vs)
    have hsub := dsub_w (vd := runD) kd_stand g.gd.nd hm
    have hr := g.runs _ hm
    simp only at hr
    have hlim : (kys Stand.d W).length < LIM := by rw [kys_len]; unfold LIM; omega
    have hadd : binD .add (runD r) (.tup [c.d]) = some (runD (r ++ [c])) := by
      show binD .add (.tup _) _ = _
      rw [b_addt (by simp -implicitDefEqProofs only [List.length_map, List.length_cons, List.length_nil]; unfold LIM; omega), run_snoc]; rfl
    have hfit := kd_stand.fits (nxS p s c)
    simp -implicitDefEqProofs only [List.foldl_cons]
    rw [← ih]
    unfold addW
    by_cases hn : nxS p s c ∈ W.map (·.1)
    · have hdec : decide (nxS p s c ∈ W.map (·.1)) = true := decide_eq_true hn
      rw [if_pos hn]
      simp -implicitDefEqProofs only [nxS] at hdin hdec
      simp -implicitDefEqProofs only [List.map_cons, e1, rd_1, hdin, hdec, nxS, bne_self_eq_false, r_din, r_din1, r_din2, r_din3, r_pop, r_pop1, r_gt, r_gt1, r_gt2, r_cat, r_cat1, r_cat2, r_cat3, r_sk, r_sk1, r_sk2, r_sk3, r_keys, r_keys1, r_items, r_items1, r_dcm, r_dcm1, r_dcm2, r_dcs, r_dcs1, r_dcs2, r_dcs3, r_dcs4, r_whl, r_dctB, v_rd_ro, r_var, r_glob, r_int, r_bl, r_non, r_str, r_tup, r_tup1, r_lst, r_lst0, r_lst1, r_dct, r_dct1, r_dct2, r_fn, r_bin, r_bin1, r_bin2, r_neg, r_neg1, r_not, r_not1, r_and, r_and1, r_or, r_or1, r_ite, r_ite1, r_kbl, r_cmp, r_cmp1, r_cmp2, r_chain, r_chain1, r_chain2, r_chain3, r_chain4, r_call, r_call1, r_prim, r_prim1, r_primB, r_primB1, r_new, r_sub, r_sub1, r_sub2, r_dsub, r_dsub1, r_dsub2, r_app, r_app1, r_app2, r_get, r_get1, r_get2, r_get3, r_frz, r_frz1, r_es0, r_es, r_es1, r_es2, r_ps0, r_ps, r_ps1, r_ps2, r_ps3, r_o0, r_o, r_o1, r_g0, r_g, r_g1, r_cut, r_cut0, r_cut1, r_cut2, r_comp, r_comp1, r_comp2, r_step, r_step1, r_step2, r_step3, r_walkL0, r_walkL, r_walkL1, r_seq, r_seq1, r_seq2, r_rng1, r_rng1a, r_rng2, r_rng2a, r_rng2b, r_in, r_zip, r_zip1, r_zip2, r_c, r_asg, r_asg1, r_nx, r_set, r_set1, r_set2, r_set3, r_st, r_expr, r_expr1, r_ret, r_ret1, r_if, r_if1, r_pass, r_ss0, r_ss, r_ss1, r_ss2, r_for, r_for1, r_fstep, r_for2, r_walkF0, r_walkF, r_walkF1, r_walkF2, v_rd_int, v_rd_bl, v_rd_str, v_rd_non, v_rd_tup, v_rd_lst, v_rd_dct, v_rR_int, v_rR_bl, v_rR_str, v_rR_non, v_rR_tup, v_rR_lst, v_rR_dct, v_rR_ro, v_rR_box, v_and, v_or, a_0, a_1, a_2, a_3, a_4, p_int, p_inti, p_lenl, p_lent, p_max, p_min, p_abs, p_all3, f_sd, f_w, p_isint, p_isinl, p_isini, p_isinb, p_isins, p_isinn, c_isn, c_isb, c_isi, c_iss, c_ist, c_isl, c_inl, c_int, b_add, b_sub, b_mul, b_mul0, b_mul1, b_w2, b_w3, v_rd_w, v_un_w, c_eqi, c_nei, c_eqs, c_lt, c_le, c_gt, c_ge, s_t, s_l, t_nm, t_tp, t_0, t_1, u_int, u_bl, u_str, u_non, u_tup, u_lst, u_0, u_1, u_s, l_5, l_4, l_3, l_2, l_1, l_0, n_0, n_1, n_2, n_3, n_4, n_5, n_6, n_7, n_8, n_9, n_10, n_11, n_12, m_0, m_1, m_2, m_3, m_4, m_5, m_6, m_7, m_8, m_9, m_10, m_11, m_12, m_13, m_14, m_15, m_16, i_23, eq_nn, eq_bb, eq_ll, beq_self_eq_true, isTy, fin_bl, fin_int, fin_tup, fin_lst, fin_nx, Option.bind_some, Option.map_some, List.map_cons, List.map_nil, List.length_cons, List.length_nil, List.replicate, List.getElem?_cons_zero, List.getElem?_cons_succ, List.set_cons_zero, List.set_cons_succ, List.cons_append, List.nil_append, List.append_nil, Nat.sub_self, List.take_length, Bool.false_eq_true, reduceIte, Bool.and_true, Bool.true_and, Bool.not_true, Bool.not_false, Bool.false_and, Bool.and_false, Nat.reduceSub, List.replicate_succ, List.replicate_zero, Nat.succ_sub_succ, decide_true, decide_false, Int.reduceEq, Int.reduceLT, Int.reduceLE, Int.reduceNeg, Int.reduceGT, gt_iff_lt, ge_iff_le, Bool.and_assoc, List.any_cons, List.any_nil, Bool.or_true, Bool.true_or, Bool.or_false, Bool.false_or]
    · have hdec : decide (nxS p s c ∈ W.map (·.1)) = false := decide_eq_false hn
      rw [if_neg hn]
      have hput := dput_w (vd := runD) (b := r ++ [c]) kd_stand hn
      simp -implicitDefEqProofs only [nxS] at hdin hdec hput hfit ⊢
      simp -implicitDefEqProofs only [List.map_cons, e1, rd_1, rd_2, hdin, hdec, hsub, hadd, setK_1, hfit, hlim, hput, isLB_2, app_2, kys_snoc (b := r ++ [c]), Bool.bne_true, v_rd_run, r_din, r_din1, r_din2, r_din3, r_pop, r_pop1, r_gt, r_gt1, r_gt2, r_cat, r_cat1, r_cat2, r_cat3, r_sk, r_sk1, r_sk2, r_sk3, r_keys, r_keys1, r_items, r_items1, r_dcm, r_dcm1, r_dcm2, r_dcs, r_dcs1, r_dcs2, r_dcs3, r_dcs4, r_whl, r_dctB, v_rd_ro, r_var, r_glob, r_int, r_bl, r_non, r_str, r_tup, r_tup1, r_lst, r_lst0, r_lst1, r_dct, r_dct1, r_dct2, r_fn, r_bin, r_bin1, r_bin2, r_neg, r_neg1, r_not, r_not1, r_and, r_and1, r_or, r_or1, r_ite, r_ite1, r_kbl, r_cmp, r_cmp1, r_cmp2, r_chain, r_chain1, r_chain2, r_chain3, r_chain4, r_call, r_call1, r_prim, r_prim1, r_primB, r_primB1, r_new, r_sub, r_sub1, r_sub2, r_dsub, r_dsub1, r_dsub2, r_app, r_app1, r_app2, r_get, r_get1, r_get2, r_get3, r_frz, r_frz1, r_es0, r_es, r_es1, r_es2, r_ps0, r_ps, r_ps1, r_ps2, r_ps3, r_o0, r_o, r_o1, r_g0, r_g, r_g1, r_cut, r_cut0, r_cut1, r_cut2, r_comp, r_comp1, r_comp2, r_step, r_step1, r_step2, r_step3, r_walkL0, r_walkL, r_walkL1, r_seq, r_seq1, r_seq2, r_rng1, r_rng1a, r_rng2, r_rng2a, r_rng2b, r_in, r_zip, r_zip1, r_zip2, r_c, r_asg, r_asg1, r_nx, r_set, r_set1, r_set2, r_set3, r_st, r_expr, r_expr1, r_ret, r_ret1, r_if, r_if1, r_pass, r_ss0, r_ss, r_ss1, r_ss2, r_for, r_for1, r_fstep, r_for2, r_walkF0, r_walkF, r_walkF1, r_walkF2, v_rd_int, v_rd_bl, v_rd_str, v_rd_non, v_rd_tup, v_rd_lst, v_rd_dct, v_rR_int, v_rR_bl, v_rR_str, v_rR_non, v_rR_tup, v_rR_lst, v_rR_dct, v_rR_ro, v_rR_box, v_and, v_or, a_0, a_1, a_2, a_3, a_4, p_int, p_inti, p_lenl, p_lent, p_max, p_min, p_abs, p_all3, f_sd, f_w, p_isint, p_isinl, p_isini, p_isinb, p_isins, p_isinn, c_isn, c_isb, c_isi, c_iss, c_ist, c_isl, c_inl, c_int, b_add, b_sub, b_mul, b_mul0, b_mul1, b_w2, b_w3, v_rd_w, v_un_w, c_eqi, c_nei, c_eqs, c_lt, c_le, c_gt, c_ge, s_t, s_l, t_nm, t_tp, t_0, t_1, u_int, u_bl, u_str, u_non, u_tup, u_lst, u_0, u_1, u_s, l_5, l_4, l_3, l_2, l_1, l_0, n_0, n_1, n_2, n_3, n_4, n_5, n_6, n_7, n_8, n_9, n_10, n_11, n_12, m_0, m_1, m_2, m_3, m_4, m_5, m_6, m_7, m_8, m_9, m_10, m_11, m_12, m_13, m_14, m_15, m_16, i_23, eq_nn, eq_bb, eq_ll, beq_self_eq_true, isTy, fin_bl, fin_int, fin_tup, fin_lst, fin_nx, Option.bind_some, Option.map_some, List.map_cons, List.map_nil, List.length_cons, List.length_nil, List.replicate, List.getElem?_cons_zero, List.getElem?_cons_succ, List.set_cons_zero, List.set_cons_succ, List.cons_append, List.nil_append, List.append_nil, Nat.sub_self, List.take_length, Bool.false_eq_true, reduceIte, Bool.and_true, Bool.true_and, Bool.not_true, Bool.not_false, Bool.false_and, Bool.and_false, Nat.reduceSub, List.replicate_succ, List.replicate_zero, Nat.succ_sub_succ, decide_true, decide_false, Int.reduceEq, Int.reduceLT, Int.reduceLE, Int.reduceNeg, Int.reduceGT, gt_iff_lt, ge_iff_le, Bool.and_assoc, List.any_cons, List.any_nil, Bool.or_true, Bool.true_or, Bool.or_false, Bool.false_or]
theorem ev_ways_by (fuel k : Nat) (hf : 40 ≤ fuel) (p : Plan) (hp : p.Ok) (st : Store) : evCall T fuel (k + 4) 11 [p.d] st = some (waysD (ways p), st) := by
  have ec := fun st => ev_choices_of fuel (k + 2) st
  have wl := while_ok (c := evC ⟨evCall T fuel (k + 3), st.length, fuel⟩ (.cmp .lt (.var 3) (.prim .len [.var 2]))) (step := evSs ⟨evCall T fuel (k + 3), st.length, fuel⟩ (match f_ways_by_1 with | .whl _ b :: _ => b | _ => []))
    (P := fun n ρ st' => ∃ W i x4 x5 x6, n + i = 20 ∧ GdP p W ∧ bfs (nxS p) allChoices n i W = ways p ∧ ρ = [some p.d, some (.box st.length), some (.box (st.length + 1)), some (.int (i : Nat)), x4, x5, x6] ∧ st' = st ++ [.dct true (kys Stand.d W) (vls runD W), .lst (kys Stand.d W)])
    (Q := fun r st' => ∃ x3 x4 x5 x6, r = .nx [some p.d, some (.box st.length), some (.box (st.length + 1)), x3, x4, x5, x6] ∧ st' = st ++ [.dct true (kys Stand.d (ways p)) (vls runD (ways p)), .lst (kys Stand.d (ways p))]) (by
    rintro n ρ st' ⟨W, i, x4, x5, x6, hn, g, hb, rfl, rfl⟩
    have few := g.few hp
    by_cases hi : i < W.length
    · right
      have hd : decide ((i : Int) < (W.length : Int)) = true := decide_eq_true (by omega)
      refine ⟨by simp -implicitDefEqProofs only [rd_2, kys_len, hd, r_din, r_din1, r_din2, r_din3, r_pop, r_pop1, r_gt, r_gt1, r_gt2, r_cat, r_cat1, r_cat2, r_cat3, r_sk, r_sk1, r_sk2, r_sk3, r_keys, r_keys1, r_items, r_items1, r_dcm, r_dcm1, r_dcm2, r_dcs, r_dcs1, r_dcs2, r_dcs3, r_dcs4, r_whl, r_dctB, v_rd_ro, r_var, r_glob, r_int, r_bl, r_non, r_str, r_tup, r_tup1, r_lst, r_lst0, r_lst1, r_dct, r_dct1, r_dct2, r_fn, r_bin, r_bin1, r_bin2, r_neg, r_neg1, r_not, r_not1, r_and, r_and1, r_or, r_or1, r_ite, r_ite1, r_kbl, r_cmp, r_cmp1, r_cmp2, r_chain, r_chain1, r_chain2, r_chain3, r_chain4, r_call, r_call1, r_prim, r_prim1, r_primB, r_primB1, r_new, r_sub, r_sub1, r_sub2, r_dsub, r_dsub1, r_dsub2, r_app, r_app1, r_app2, r_get, r_get1, r_get2, r_get3, r_frz, r_frz1, r_es0, r_es, r_es1, r_es2, r_ps0, r_ps, r_ps1, r_ps2, r_ps3, r_o0, r_o, r_o1, r_g0, r_g, r_g1, r_cut, r_cut0, r_cut1, r_cut2, r_comp, r_comp1, r_comp2, r_step, r_step1, r_step2, r_step3, r_walkL0, r_walkL, r_walkL1, r_seq, r_seq1, r_seq2, r_rng1, r_rng1a, r_rng2, r_rng2a, r_rng2b, r_in, r_zip, r_zip1, r_zip2, r_c, r_asg, r_asg1, r_nx, r_set, r_set1, r_set2, r_set3, r_st, r_expr, r_expr1, r_ret, r_ret1, r_if, r_if1, r_pass, r_ss0, r_ss, r_ss1, r_ss2, r_for, r_for1, r_fstep, r_for2, r_walkF0, r_walkF, r_walkF1, r_walkF2, v_rd_int, v_rd_bl, v_rd_str, v_rd_non, v_rd_tup, v_rd_lst, v_rd_dct, v_rR_int, v_rR_bl, v_rR_str, v_rR_non, v_rR_tup, v_rR_lst, v_rR_dct, v_rR_ro, v_rR_box, v_and, v_or, a_0, a_1, a_2, a_3, a_4, p_int, p_inti, p_lenl, p_lent, p_max, p_min, p_abs, p_all3, f_sd, f_w, p_isint, p_isinl, p_isini, p_isinb, p_isins, p_isinn, c_isn, c_isb, c_isi, c_iss, c_ist, c_isl, c_inl, c_int, b_add, b_sub, b_mul, b_mul0, b_mul1, b_w2, b_w3, v_rd_w, v_un_w, c_eqi, c_nei, c_eqs, c_lt, c_le, c_gt, c_ge, s_t, s_l, t_nm, t_tp, t_0, t_1, u_int, u_bl, u_str, u_non, u_tup, u_lst, u_0, u_1, u_s, l_5, l_4, l_3, l_2, l_1, l_0, n_0, n_1, n_2, n_3, n_4, n_5, n_6, n_7, n_8, n_9, n_10, n_11, n_12, m_0, m_1, m_2, m_3, m_4, m_5, m_6, m_7, m_8, m_9, m_10, m_11, m_12, m_13, m_14, m_15, m_16, i_23, eq_nn, eq_bb, eq_ll, beq_self_eq_true, isTy, fin_bl, fin_int, fin_tup, fin_lst, fin_nx, Option.bind_some, Option.map_some, List.map_cons, List.map_nil, List.length_cons, List.length_nil, List.replicate, List.getElem?_cons_zero, List.getElem?_cons_succ, List.set_cons_zero, List.set_cons_succ, List.cons_append, List.nil_append, List.append_nil, Nat.sub_self, List.take_length, Bool.false_eq_true, reduceIte, Bool.and_true, Bool.true_and, Bool.not_true, Bool.not_false, Bool.false_and, Bool.and_false, Nat.reduceSub, List.replicate_succ, List.replicate_zero, Nat.succ_sub_succ, decide_true, decide_false, Int.reduceEq, Int.reduceLT, Int.reduceLE, Int.reduceNeg, Int.reduceGT, gt_iff_lt, ge_iff_le, Bool.and_assoc, List.any_cons, List.any_nil, Bool.or_true, Bool.true_or, Bool.or_false, Bool.false_or], .inl ?_⟩
      obtain ⟨⟨s, r⟩, hx⟩ : ∃ x, W[i]? = some x := ⟨_, List.getElem?_eq_getElem hi⟩
      obtain ⟨y5, y6, e⟩ := ways_choice fuel k fuel p hp st (.int ((i + 1 : Nat) : Int)) s r allChoices W x5 x6 g (List.mem_of_getElem? hx)
      cases n with
      | zero => omega
      | succ n =>
        have est : stepW (nxS p) allChoices W i = allChoices.foldl (addW (nxS p) s r) W := by unfold stepW; rw [hx]
        refine ⟨n, _, _, Nat.lt_succ_self n, ?_, allChoices.foldl (addW (nxS p) s r) W, i + 1, some s.d, y5, y6, by omega, g.fold hp _ (List.mem_of_getElem? hx), ?_, rfl, rfl⟩
        · have hat := kys_at (kd := Stand.d) hx
          have hi1 : (i : Int) + 1 = ((i + 1 : Nat) : Int) := by omega
          simp -implicitDefEqProofs only [f_ways_by_1, rd_2, hat, hi1, ec, e, r_din, r_din1, r_din2, r_din3, r_pop, r_pop1, r_gt, r_gt1, r_gt2, r_cat, r_cat1, r_cat2, r_cat3, r_sk, r_sk1, r_sk2, r_sk3, r_keys, r_keys1, r_items, r_items1, r_dcm, r_dcm1, r_dcm2, r_dcs, r_dcs1, r_dcs2, r_dcs3, r_dcs4, r_whl, r_dctB, v_rd_ro, r_var, r_glob, r_int, r_bl, r_non, r_str, r_tup, r_tup1, r_lst, r_lst0, r_lst1, r_dct, r_dct1, r_dct2, r_fn, r_bin, r_bin1, r_bin2, r_neg, r_neg1, r_not, r_not1, r_and, r_and1, r_or, r_or1, r_ite, r_ite1, r_kbl, r_cmp, r_cmp1, r_cmp2, r_chain, r_chain1, r_chain2, r_chain3, r_chain4, r_call, r_call1, r_prim, r_prim1, r_primB, r_primB1, r_new, r_sub, r_sub1, r_sub2, r_dsub, r_dsub1, r_dsub2, r_app, r_app1, r_app2, r_get, r_get1, r_get2, r_get3, r_frz, r_frz1, r_es0, r_es, r_es1, r_es2, r_ps0, r_ps, r_ps1, r_ps2, r_ps3, r_o0, r_o, r_o1, r_g0, r_g, r_g1, r_cut, r_cut0, r_cut1, r_cut2, r_comp, r_comp1, r_comp2, r_step, r_step1, r_step2, r_step3, r_walkL0, r_walkL, r_walkL1, r_seq, r_seq1, r_seq2, r_rng1, r_rng1a, r_rng2, r_rng2a, r_rng2b, r_in, r_zip, r_zip1, r_zip2, r_c, r_asg, r_asg1, r_nx, r_set, r_set1, r_set2, r_set3, r_st, r_expr, r_expr1, r_ret, r_ret1, r_if, r_if1, r_pass, r_ss0, r_ss, r_ss1, r_ss2, r_for, r_for1, r_fstep, r_for2, r_walkF0, r_walkF, r_walkF1, r_walkF2, v_rd_int, v_rd_bl, v_rd_str, v_rd_non, v_rd_tup, v_rd_lst, v_rd_dct, v_rR_int, v_rR_bl, v_rR_str, v_rR_non, v_rR_tup, v_rR_lst, v_rR_dct, v_rR_ro, v_rR_box, v_and, v_or, a_0, a_1, a_2, a_3, a_4, p_int, p_inti, p_lenl, p_lent, p_max, p_min, p_abs, p_all3, f_sd, f_w, p_isint, p_isinl, p_isini, p_isinb, p_isins, p_isinn, c_isn, c_isb, c_isi, c_iss, c_ist, c_isl, c_inl, c_int, b_add, b_sub, b_mul, b_mul0, b_mul1, b_w2, b_w3, v_rd_w, v_un_w, c_eqi, c_nei, c_eqs, c_lt, c_le, c_gt, c_ge, s_t, s_l, t_nm, t_tp, t_0, t_1, u_int, u_bl, u_str, u_non, u_tup, u_lst, u_0, u_1, u_s, l_5, l_4, l_3, l_2, l_1, l_0, n_0, n_1, n_2, n_3, n_4, n_5, n_6, n_7, n_8, n_9, n_10, n_11, n_12, m_0, m_1, m_2, m_3, m_4, m_5, m_6, m_7, m_8, m_9, m_10, m_11, m_12, m_13, m_14, m_15, m_16, i_23, eq_nn, eq_bb, eq_ll, beq_self_eq_true, isTy, fin_bl, fin_int, fin_tup, fin_lst, fin_nx, Option.bind_some, Option.map_some, List.map_cons, List.map_nil, List.length_cons, List.length_nil, List.replicate, List.getElem?_cons_zero, List.getElem?_cons_succ, List.set_cons_zero, List.set_cons_succ, List.cons_append, List.nil_append, List.append_nil, Nat.sub_self, List.take_length, Bool.false_eq_true, reduceIte, Bool.and_true, Bool.true_and, Bool.not_true, Bool.not_false, Bool.false_and, Bool.and_false, Nat.reduceSub, List.replicate_succ, List.replicate_zero, Nat.succ_sub_succ, decide_true, decide_false, Int.reduceEq, Int.reduceLT, Int.reduceLE, Int.reduceNeg, Int.reduceGT, gt_iff_lt, ge_iff_le, Bool.and_assoc, List.any_cons, List.any_nil, Bool.or_true, Bool.true_or, Bool.or_false, Bool.false_or]
        · rw [← hb, ← est]
          conv => rhs; unfold bfs
          rw [if_pos hi]
    · left
      have hd : decide ((i : Int) < (W.length : Int)) = false := decide_eq_false (by omega)
      rw [bfs_end _ _ (by omega)] at hb
      refine ⟨by simp -implicitDefEqProofs only [rd_2, kys_len, hd, r_din, r_din1, r_din2, r_din3, r_pop, r_pop1, r_gt, r_gt1, r_gt2, r_cat, r_cat1, r_cat2, r_cat3, r_sk, r_sk1, r_sk2, r_sk3, r_keys, r_keys1, r_items, r_items1, r_dcm, r_dcm1, r_dcm2, r_dcs, r_dcs1, r_dcs2, r_dcs3, r_dcs4, r_whl, r_dctB, v_rd_ro, r_var, r_glob, r_int, r_bl, r_non, r_str, r_tup, r_tup1, r_lst, r_lst0, r_lst1, r_dct, r_dct1, r_dct2, r_fn, r_bin, r_bin1, r_bin2, r_neg, r_neg1, r_not, r_not1, r_and, r_and1, r_or, r_or1, r_ite, r_ite1, r_kbl, r_cmp, r_cmp1, r_cmp2, r_chain, r_chain1, r_chain2, r_chain3, r_chain4, r_call, r_call1, r_prim, r_prim1, r_primB, r_primB1, r_new, r_sub, r_sub1, r_sub2, r_dsub, r_dsub1, r_dsub2, r_app, r_app1, r_app2, r_get, r_get1, r_get2, r_get3, r_frz, r_frz1, r_es0, r_es, r_es1, r_es2, r_ps0, r_ps, r_ps1, r_ps2, r_ps3, r_o0, r_o, r_o1, r_g0, r_g, r_g1, r_cut, r_cut0, r_cut1, r_cut2, r_comp, r_comp1, r_comp2, r_step, r_step1, r_step2, r_step3, r_walkL0, r_walkL, r_walkL1, r_seq, r_seq1, r_seq2, r_rng1, r_rng1a, r_rng2, r_rng2a, r_rng2b, r_in, r_zip, r_zip1, r_zip2, r_c, r_asg, r_asg1, r_nx, r_set, r_set1, r_set2, r_set3, r_st, r_expr, r_expr1, r_ret, r_ret1, r_if, r_if1, r_pass, r_ss0, r_ss, r_ss1, r_ss2, r_for, r_for1, r_fstep, r_for2, r_walkF0, r_walkF, r_walkF1, r_walkF2, v_rd_int, v_rd_bl, v_rd_str, v_rd_non, v_rd_tup, v_rd_lst, v_rd_dct, v_rR_int, v_rR_bl, v_rR_str, v_rR_non, v_rR_tup, v_rR_lst, v_rR_dct, v_rR_ro, v_rR_box, v_and, v_or, a_0, a_1, a_2, a_3, a_4, p_int, p_inti, p_lenl, p_lent, p_max, p_min, p_abs, p_all3, f_sd, f_w, p_isint, p_isinl, p_isini, p_isinb, p_isins, p_isinn, c_isn, c_isb, c_isi, c_iss, c_ist, c_isl, c_inl, c_int, b_add, b_sub, b_mul, b_mul0, b_mul1, b_w2, b_w3, v_rd_w, v_un_w, c_eqi, c_nei, c_eqs, c_lt, c_le, c_gt, c_ge, s_t, s_l, t_nm, t_tp, t_0, t_1, u_int, u_bl, u_str, u_non, u_tup, u_lst, u_0, u_1, u_s, l_5, l_4, l_3, l_2, l_1, l_0, n_0, n_1, n_2, n_3, n_4, n_5, n_6, n_7, n_8, n_9, n_10, n_11, n_12, m_0, m_1, m_2, m_3, m_4, m_5, m_6, m_7, m_8, m_9, m_10, m_11, m_12, m_13, m_14, m_15, m_16, i_23, eq_nn, eq_bb, eq_ll, beq_self_eq_true, isTy, fin_bl, fin_int, fin_tup, fin_lst, fin_nx, Option.bind_some, Option.map_some, List.map_cons, List.map_nil, List.length_cons, List.length_nil, List.replicate, List.getElem?_cons_zero, List.getElem?_cons_succ, List.set_cons_zero, List.set_cons_succ, List.cons_append, List.nil_append, List.append_nil, Nat.sub_self, List.take_length, Bool.false_eq_true, reduceIte, Bool.and_true, Bool.true_and, Bool.not_true, Bool.not_false, Bool.false_and, Bool.and_false, Nat.reduceSub, List.replicate_succ, List.replicate_zero, Nat.succ_sub_succ, decide_true, decide_false, Int.reduceEq, Int.reduceLT, Int.reduceLE, Int.reduceNeg, Int.reduceGT, gt_iff_lt, ge_iff_le, Bool.and_assoc, List.any_cons, List.any_nil, Bool.or_true, Bool.true_or, Bool.or_false, Bool.false_or], some (.int (i : Nat)), x4, x5, x6, rfl, ?_⟩
      rw [hb])
  obtain ⟨rr, st', ew, x3, x4, x5, x6, hr1, hr2⟩ := wl 20 fuel [some p.d, some (.box st.length), some (.box (st.length + 1)), some (.int 0), none, none, none] (st ++ [.dct true (kys Stand.d [(⟨0, 0, 1, 0⟩, [])]) (vls runD [(⟨0, 0, 1, 0⟩, [])]), .lst (kys Stand.d [(⟨0, 0, 1, 0⟩, [])])]) (by omega)
    ⟨[(⟨0, 0, 1, 0⟩, [])], 0, none, none, none, rfl, GdP.start p hp, ways_eq p, rfl, rfl⟩
  rw [hr1, hr2] at ew
  rw [call_eq (fn := f_ways_by) rfl rfl]
  have hm : dmake true [(D.tup [.int 0, .int 0, .int 1, .int 0], D.tup [])] ([], []) = some (kys Stand.d [((⟨0, 0, 1, 0⟩ : Stand), ([] : List Choice))], vls runD [((⟨0, 0, 1, 0⟩ : Stand), ([] : List Choice))]) := by rfl
  have hk : [D.tup [.int 0, .int 0, .int 1, .int 0]] = kys Stand.d [((⟨0, 0, 1, 0⟩ : Stand), ([] : List Choice))] := by rfl
  have hl : (st ++ [B.dct true (kys Stand.d [((⟨0, 0, 1, 0⟩ : Stand), ([] : List Choice))]) (vls runD [((⟨0, 0, 1, 0⟩ : Stand), ([] : List Choice))])]).length = st.length + 1 := by simp
  have hz : (kys Stand.d [((⟨0, 0, 1, 0⟩ : Stand), ([] : List Choice))]).length ≤ LIM := by decide
  simp -implicitDefEqProofs only [f_ways_by_1] at ew
  simp -implicitDefEqProofs only [f_ways_by, f_ways_by_x0, f_ways_by_x1, f_ways_by_x2, hm, hk, hl, hz, ew, List.append_assoc, frz_1, f_waysD, tk_2, r_din, r_din1, r_din2, r_din3, r_pop, r_pop1, r_gt, r_gt1, r_gt2, r_cat, r_cat1, r_cat2, r_cat3, r_sk, r_sk1, r_sk2, r_sk3, r_keys, r_keys1, r_items, r_items1, r_dcm, r_dcm1, r_dcm2, r_dcs, r_dcs1, r_dcs2, r_dcs3, r_dcs4, r_whl, r_dctB, v_rd_ro, r_var, r_glob, r_int, r_bl, r_non, r_str, r_tup, r_tup1, r_lst, r_lst0, r_lst1, r_dct, r_dct1, r_dct2, r_fn, r_bin, r_bin1, r_bin2, r_neg, r_neg1, r_not, r_not1, r_and, r_and1, r_or, r_or1, r_ite, r_ite1, r_kbl, r_cmp, r_cmp1, r_cmp2, r_chain, r_chain1, r_chain2, r_chain3, r_chain4, r_call, r_call1, r_prim, r_prim1, r_primB, r_primB1, r_new, r_sub, r_sub1, r_sub2, r_dsub, r_dsub1, r_dsub2, r_app, r_app1, r_app2, r_get, r_get1, r_get2, r_get3, r_frz, r_frz1, r_es0, r_es, r_es1, r_es2, r_ps0, r_ps, r_ps1, r_ps2, r_ps3, r_o0, r_o, r_o1, r_g0, r_g, r_g1, r_cut, r_cut0, r_cut1, r_cut2, r_comp, r_comp1, r_comp2, r_step, r_step1, r_step2, r_step3, r_walkL0, r_walkL, r_walkL1, r_seq, r_seq1, r_seq2, r_rng1, r_rng1a, r_rng2, r_rng2a, r_rng2b, r_in, r_zip, r_zip1, r_zip2, r_c, r_asg, r_asg1, r_nx, r_set, r_set1, r_set2, r_set3, r_st, r_expr, r_expr1, r_ret, r_ret1, r_if, r_if1, r_pass, r_ss0, r_ss, r_ss1, r_ss2, r_for, r_for1, r_fstep, r_for2, r_walkF0, r_walkF, r_walkF1, r_walkF2, v_rd_int, v_rd_bl, v_rd_str, v_rd_non, v_rd_tup, v_rd_lst, v_rd_dct, v_rR_int, v_rR_bl, v_rR_str, v_rR_non, v_rR_tup, v_rR_lst, v_rR_dct, v_rR_ro, v_rR_box, v_and, v_or, a_0, a_1, a_2, a_3, a_4, p_int, p_inti, p_lenl, p_lent, p_max, p_min, p_abs, p_all3, f_sd, f_w, p_isint, p_isinl, p_isini, p_isinb, p_isins, p_isinn, c_isn, c_isb, c_isi, c_iss, c_ist, c_isl, c_inl, c_int, b_add, b_sub, b_mul, b_mul0, b_mul1, b_w2, b_w3, v_rd_w, v_un_w, c_eqi, c_nei, c_eqs, c_lt, c_le, c_gt, c_ge, s_t, s_l, t_nm, t_tp, t_0, t_1, u_int, u_bl, u_str, u_non, u_tup, u_lst, u_0, u_1, u_s, l_5, l_4, l_3, l_2, l_1, l_0, n_0, n_1, n_2, n_3, n_4, n_5, n_6, n_7, n_8, n_9, n_10, n_11, n_12, m_0, m_1, m_2, m_3, m_4, m_5, m_6, m_7, m_8, m_9, m_10, m_11, m_12, m_13, m_14, m_15, m_16, i_23, eq_nn, eq_bb, eq_ll, beq_self_eq_true, isTy, fin_bl, fin_int, fin_tup, fin_lst, fin_nx, Option.bind_some, Option.map_some, List.map_cons, List.map_nil, List.length_cons, List.length_nil, List.replicate, List.getElem?_cons_zero, List.getElem?_cons_succ, List.set_cons_zero, List.set_cons_succ, List.cons_append, List.nil_append, List.append_nil, Nat.sub_self, List.take_length, Bool.false_eq_true, reduceIte, Bool.and_true, Bool.true_and, Bool.not_true, Bool.not_false, Bool.false_and, Bool.and_false, Nat.reduceSub, List.replicate_succ, List.replicate_zero, Nat.succ_sub_succ, decide_true, decide_false, Int.reduceEq, Int.reduceLT, Int.reduceLE, Int.reduceNeg, Int.reduceGT, gt_iff_lt, ge_iff_le, Bool.and_assoc, List.any_cons, List.any_nil, Bool.or_true, Bool.true_or, Bool.or_false, Bool.false_or]
def beginD : D := .tup [.int 0, .int 0, .int 1, .int 0]
theorem lways_choice (fuel k fu : Nat) (p : Plan) (hp : p.Ok) (st : Store) (i : D) (s : Stand) (r : List Choice) : ∀ (cs : List Choice) (W : List (Stand × List Choice)) (x5 x6 : Option D), GdP p W → (s, r) ∈ W →
    ∃ y5 y6, walkF (fStep ⟨evCall T fuel (k + 3), st.length, fu⟩ (.name 6) [.asg (.name 7) (.sub (.call 24 [.var 0, .var 5, .var 6]) (.int 0)),
      .ite (.din true (.var 7) (.var 2))
        [.setK (.var 2) (.var 7) (.bin .add (.dsub (.var 2) (.var 5)) (.tup [.var 6])),
        .expr (.append (.var 3) (.var 7))]
        []]) (cs.map Choice.d) [some p.d, some beginD, some (.box st.length), some (.box (st.length + 1)), some i, some s.d, x5, x6] (st ++ [.dct true (kys Stand.d W) (vls runD W), .lst (kys Stand.d W)]) =
      some (.nx [some p.d, some beginD, some (.box st.length), some (.box (st.length + 1)), some i, some s.d, y5, y6], st ++ [.dct true (kys Stand.d (cs.foldl (addW (nxS p) s r) W)) (vls runD (cs.foldl (addW (nxS p) s r) W)), .lst (kys Stand.d (cs.foldl (addW (nxS p) s r) W))])
  | [], W, x5, x6, g, hm => ⟨x5, x6, rfl⟩
  | c :: cs, W, x5, x6, g, hm => by
    obtain ⟨y5, y6, ih⟩ := lways_choice fuel k fu p hp st i s r cs (addW (nxS p) s r W c) (some c.d) (some (nxS p s c).d) (g.add hp hm c) (addW_mem hm)
    refine ⟨y5, y6, ?_⟩
    have e1 : ∀ st, evCall T fuel (k + 3) 24 [p.d, s.d, c.d] st = some (.tup [(passed p s c).1.d, words (passed p s c).2], st) := fun st => by
      have e := ev_tick fuel (k + 1) p s c st
      rw [tick_eq p s c hp (g.fits _ hm)] at e
      exact e
    have few := g.few hp
    have hdin := fun vs => din_w kd_stand (nxS p s c) W (vs := vs)
    have hsub := dsub_w (vd := runD) kd_stand g.gd.nd hm
    have hr := g.runs _ hm
    simp only at hr
    have hlim : (kys Stand.d W).length < LIM := by rw [kys_len]; unfold LIM; omega
    have hadd : binD .add (runD r) (.tup [c.d]) = some (runD (r ++ [c])) := by
      show binD .add (.tup _) _ = _
      rw [b_addt (by simp -implicitDefEqProofs only [List.length_map, List.length_cons, List.length_nil]; unfold LIM; omega), run_snoc]; rfl
    have hfit := kd_stand.fits (nxS p s c)
    simp -implicitDefEqProofs only [List.foldl_cons]
    rw [← ih]
    unfold addW
    by_cases hn : nxS p s c ∈ W.map (·.1)
    · have hdec : decide (nxS p s c ∈ W.map (·.1)) = true := decide_eq_true hn
      rw [if_pos hn]
      simp -implicitDefEqProofs only [nxS] at hdin hdec
      simp -implicitDefEqProofs only [List.map_cons, e1, rd_1, hdin, hdec, nxS, bne_self_eq_false, r_din, r_din1, r_din2, r_din3, r_pop, r_pop1, r_gt, r_gt1, r_gt2, r_cat, r_cat1, r_cat2, r_cat3, r_sk, r_sk1, r_sk2, r_sk3, r_keys, r_keys1, r_items, r_items1, r_dcm, r_dcm1, r_dcm2, r_dcs, r_dcs1, r_dcs2, r_dcs3, r_dcs4, r_whl, r_dctB, v_rd_ro, r_var, r_glob, r_int, r_bl, r_non, r_str, r_tup, r_tup1, r_lst, r_lst0, r_lst1, r_dct, r_dct1, r_dct2, r_fn, r_bin, r_bin1, r_bin2, r_neg, r_neg1, r_not, r_not1, r_and, r_and1, r_or, r_or1, r_ite, r_ite1, r_kbl, r_cmp, r_cmp1, r_cmp2, r_chain, r_chain1, r_chain2, r_chain3, r_chain4, r_call, r_call1, r_prim, r_prim1, r_primB, r_primB1, r_new, r_sub, r_sub1, r_sub2, r_dsub, r_dsub1, r_dsub2, r_app, r_app1, r_app2, r_get, r_get1, r_get2, r_get3, r_frz, r_frz1, r_es0, r_es, r_es1, r_es2, r_ps0, r_ps, r_ps1, r_ps2, r_ps3, r_o0, r_o, r_o1, r_g0, r_g, r_g1, r_cut, r_cut0, r_cut1, r_cut2, r_comp, r_comp1, r_comp2, r_step, r_step1, r_step2, r_step3, r_walkL0, r_walkL, r_walkL1, r_seq, r_seq1, r_seq2, r_rng1, r_rng1a, r_rng2, r_rng2a, r_rng2b, r_in, r_zip, r_zip1, r_zip2, r_c, r_asg, r_asg1, r_nx, r_set, r_set1, r_set2, r_set3, r_st, r_expr, r_expr1, r_ret, r_ret1, r_if, r_if1, r_pass, r_ss0, r_ss, r_ss1, r_ss2, r_for, r_for1, r_fstep, r_for2, r_walkF0, r_walkF, r_walkF1, r_walkF2, v_rd_int, v_rd_bl, v_rd_str, v_rd_non, v_rd_tup, v_rd_lst, v_rd_dct, v_rR_int, v_rR_bl, v_rR_str, v_rR_non, v_rR_tup, v_rR_lst, v_rR_dct, v_rR_ro, v_rR_box, v_and, v_or, a_0, a_1, a_2, a_3, a_4, p_int, p_inti, p_lenl, p_lent, p_max, p_min, p_abs, p_all3, f_sd, f_w, p_isint, p_isinl, p_isini, p_isinb, p_isins, p_isinn, c_isn, c_isb, c_isi, c_iss, c_ist, c_isl, c_inl, c_int, b_add, b_sub, b_mul, b_mul0, b_mul1, b_w2, b_w3, v_rd_w, v_un_w, c_eqi, c_nei, c_eqs, c_lt, c_le, c_gt, c_ge, s_t, s_l, t_nm, t_tp, t_0, t_1, u_int, u_bl, u_str, u_non, u_tup, u_lst, u_0, u_1, u_s, l_5, l_4, l_3, l_2, l_1, l_0, n_0, n_1, n_2, n_3, n_4, n_5, n_6, n_7, n_8, n_9, n_10, n_11, n_12, m_0, m_1, m_2, m_3, m_4, m_5, m_6, m_7, m_8, m_9, m_10, m_11, m_12, m_13, m_14, m_15, m_16, i_23, eq_nn, eq_bb, eq_ll, beq_self_eq_true, isTy, fin_bl, fin_int, fin_tup, fin_lst, fin_nx, Option.bind_some, Option.map_some, List.map_cons, List.map_nil, List.length_cons, List.length_nil, List.replicate, List.getElem?_cons_zero, List.getElem?_cons_succ, List.set_cons_zero, List.set_cons_succ, List.cons_append, List.nil_append, List.append_nil, Nat.sub_self, List.take_length, Bool.false_eq_true, reduceIte, Bool.and_true, Bool.true_and, Bool.not_true, Bool.not_false, Bool.false_and, Bool.and_false, Nat.reduceSub, List.replicate_succ, List.replicate_zero, Nat.succ_sub_succ, decide_true, decide_false, Int.reduceEq, Int.reduceLT, Int.reduceLE, Int.reduceNeg, Int.reduceGT, gt_iff_lt, ge_iff_le, Bool.and_assoc, List.any_cons, List.any_nil, Bool.or_true, Bool.true_or, Bool.or_false, Bool.false_or]
    · have hdec : decide (nxS p s c ∈ W.map (·.1)) = false := decide_eq_false hn
      rw [if_neg hn]
      have hput := dput_w (vd := runD) (b := r ++ [c]) kd_stand hn
      simp -implicitDefEqProofs only [nxS] at hdin hdec hput hfit ⊢
      simp -implicitDefEqProofs only [List.map_cons, e1, rd_1, rd_2, hdin, hdec, hsub, hadd, setK_1, hfit, hlim, hput, isLB_2, app_2, kys_snoc (b := r ++ [c]), Bool.bne_true, v_rd_run, r_din, r_din1, r_din2, r_din3, r_pop, r_pop1, r_gt, r_gt1, r_gt2, r_cat, r_cat1, r_cat2, r_cat3, r_sk, r_sk1, r_sk2, r_sk3, r_keys, r_keys1, r_items, r_items1, r_dcm, r_dcm1, r_dcm2, r_dcs, r_dcs1, r_dcs2, r_dcs3, r_dcs4, r_whl, r_dctB, v_rd_ro, r_var, r_glob, r_int, r_bl, r_non, r_str, r_tup, r_tup1, r_lst, r_lst0, r_lst1, r_dct, r_dct1, r_dct2, r_fn, r_bin, r_bin1, r_bin2, r_neg, r_neg1, r_not, r_not1, r_and, r_and1, r_or, r_or1, r_ite, r_ite1, r_kbl, r_cmp, r_cmp1, r_cmp2, r_chain, r_chain1, r_chain2, r_chain3, r_chain4, r_call, r_call1, r_prim, r_prim1, r_primB, r_primB1, r_new, r_sub, r_sub1, r_sub2, r_dsub, r_dsub1, r_dsub2, r_app, r_app1, r_app2, r_get, r_get1, r_get2, r_get3, r_frz, r_frz1, r_es0, r_es, r_es1, r_es2, r_ps0, r_ps, r_ps1, r_ps2, r_ps3, r_o0, r_o, r_o1, r_g0, r_g, r_g1, r_cut, r_cut0, r_cut1, r_cut2, r_comp, r_comp1, r_comp2, r_step, r_step1, r_step2, r_step3, r_walkL0, r_walkL, r_walkL1, r_seq, r_seq1, r_seq2, r_rng1, r_rng1a, r_rng2, r_rng2a, r_rng2b, r_in, r_zip, r_zip1, r_zip2, r_c, r_asg, r_asg1, r_nx, r_set, r_set1, r_set2, r_set3, r_st, r_expr, r_expr1, r_ret, r_ret1, r_if, r_if1, r_pass, r_ss0, r_ss, r_ss1, r_ss2, r_for, r_for1, r_fstep, r_for2, r_walkF0, r_walkF, r_walkF1, r_walkF2, v_rd_int, v_rd_bl, v_rd_str, v_rd_non, v_rd_tup, v_rd_lst, v_rd_dct, v_rR_int, v_rR_bl, v_rR_str, v_rR_non, v_rR_tup, v_rR_lst, v_rR_dct, v_rR_ro, v_rR_box, v_and, v_or, a_0, a_1, a_2, a_3, a_4, p_int, p_inti, p_lenl, p_lent, p_max, p_min, p_abs, p_all3, f_sd, f_w, p_isint, p_isinl, p_isini, p_isinb, p_isins, p_isinn, c_isn, c_isb, c_isi, c_iss, c_ist, c_isl, c_inl, c_int, b_add, b_sub, b_mul, b_mul0, b_mul1, b_w2, b_w3, v_rd_w, v_un_w, c_eqi, c_nei, c_eqs, c_lt, c_le, c_gt, c_ge, s_t, s_l, t_nm, t_tp, t_0, t_1, u_int, u_bl, u_str, u_non, u_tup, u_lst, u_0, u_1, u_s, l_5, l_4, l_3, l_2, l_1, l_0, n_0, n_1, n_2, n_3, n_4, n_5, n_6, n_7, n_8, n_9, n_10, n_11, n_12, m_0, m_1, m_2, m_3, m_4, m_5, m_6, m_7, m_8, m_9, m_10, m_11, m_12, m_13, m_14, m_15, m_16, i_23, eq_nn, eq_bb, eq_ll, beq_self_eq_true, isTy, fin_bl, fin_int, fin_tup, fin_lst, fin_nx, Option.bind_some, Option.map_some, List.map_cons, List.map_nil, List.length_cons, List.length_nil, List.replicate, List.getElem?_cons_zero, List.getElem?_cons_succ, List.set_cons_zero, List.set_cons_succ, List.cons_append, List.nil_append, List.append_nil, Nat.sub_self, List.take_length, Bool.false_eq_true, reduceIte, Bool.and_true, Bool.true_and, Bool.not_true, Bool.not_false, Bool.false_and, Bool.and_false, Nat.reduceSub, List.replicate_succ, List.replicate_zero, Nat.succ_sub_succ, decide_true, decide_false, Int.reduceEq, Int.reduceLT, Int.reduceLE, Int.reduceNeg, Int.reduceGT, gt_iff_lt, ge_iff_le, Bool.and_assoc, List.any_cons, List.any_nil, Bool.or_true, Bool.true_or, Bool.or_false, Bool.false_or]
theorem ev_law_ways (fuel k : Nat) (hf : 40 ≤ fuel) (p : Plan) (hp : p.Ok) (st : Store) : evCall T fuel (k + 4) 27 [p.d] st = some (waysD (ways p), st) := by
  have ec := fun st => ev_all_choices fuel (k + 2) st
  have wl := while_ok (c := evC ⟨evCall T fuel (k + 3), st.length, fuel⟩ (.cmp .lt (.var 4) (.prim .len [.var 3]))) (step := evSs ⟨evCall T fuel (k + 3), st.length, fuel⟩ (match f_law_ways_2 with | .whl _ b :: _ => b | _ => []))
    (P := fun n ρ st' => ∃ W i x4 x5 x6, n + i = 20 ∧ GdP p W ∧ bfs (nxS p) allChoices n i W = ways p ∧ ρ = [some p.d, some beginD, some (.box st.length), some (.box (st.length + 1)), some (.int (i : Nat)), x4, x5, x6] ∧ st' = st ++ [.dct true (kys Stand.d W) (vls runD W), .lst (kys Stand.d W)])
    (Q := fun r st' => ∃ x3 x4 x5 x6, r = .nx [some p.d, some beginD, some (.box st.length), some (.box (st.length + 1)), x3, x4, x5, x6] ∧ st' = st ++ [.dct true (kys Stand.d (ways p)) (vls runD (ways p)), .lst (kys Stand.d (ways p))]) (by
    rintro n ρ st' ⟨W, i, x4, x5, x6, hn, g, hb, rfl, rfl⟩
    have few := g.few hp
    by_cases hi : i < W.length
    · right
      have hd : decide ((i : Int) < (W.length : Int)) = true := decide_eq_true (by omega)
      refine ⟨by simp -implicitDefEqProofs only [rd_2, kys_len, hd, r_din, r_din1, r_din2, r_din3, r_pop, r_pop1, r_gt, r_gt1, r_gt2, r_cat, r_cat1, r_cat2, r_cat3, r_sk, r_sk1, r_sk2, r_sk3, r_keys, r_keys1, r_items, r_items1, r_dcm, r_dcm1, r_dcm2, r_dcs, r_dcs1, r_dcs2, r_dcs3, r_dcs4, r_whl, r_dctB, v_rd_ro, r_var, r_glob, r_int, r_bl, r_non, r_str, r_tup, r_tup1, r_lst, r_lst0, r_lst1, r_dct, r_dct1, r_dct2, r_fn, r_bin, r_bin1, r_bin2, r_neg, r_neg1, r_not, r_not1, r_and, r_and1, r_or, r_or1, r_ite, r_ite1, r_kbl, r_cmp, r_cmp1, r_cmp2, r_chain, r_chain1, r_chain2, r_chain3, r_chain4, r_call, r_call1, r_prim, r_prim1, r_primB, r_primB1, r_new, r_sub, r_sub1, r_sub2, r_dsub, r_dsub1, r_dsub2, r_app, r_app1, r_app2, r_get, r_get1, r_get2, r_get3, r_frz, r_frz1, r_es0, r_es, r_es1, r_es2, r_ps0, r_ps, r_ps1, r_ps2, r_ps3, r_o0, r_o, r_o1, r_g0, r_g, r_g1, r_cut, r_cut0, r_cut1, r_cut2, r_comp, r_comp1, r_comp2, r_step, r_step1, r_step2, r_step3, r_walkL0, r_walkL, r_walkL1, r_seq, r_seq1, r_seq2, r_rng1, r_rng1a, r_rng2, r_rng2a, r_rng2b, r_in, r_zip, r_zip1, r_zip2, r_c, r_asg, r_asg1, r_nx, r_set, r_set1, r_set2, r_set3, r_st, r_expr, r_expr1, r_ret, r_ret1, r_if, r_if1, r_pass, r_ss0, r_ss, r_ss1, r_ss2, r_for, r_for1, r_fstep, r_for2, r_walkF0, r_walkF, r_walkF1, r_walkF2, v_rd_int, v_rd_bl, v_rd_str, v_rd_non, v_rd_tup, v_rd_lst, v_rd_dct, v_rR_int, v_rR_bl, v_rR_str, v_rR_non, v_rR_tup, v_rR_lst, v_rR_dct, v_rR_ro, v_rR_box, v_and, v_or, a_0, a_1, a_2, a_3, a_4, p_int, p_inti, p_lenl, p_lent, p_max, p_min, p_abs, p_all3, f_sd, f_w, p_isint, p_isinl, p_isini, p_isinb, p_isins, p_isinn, c_isn, c_isb, c_isi, c_iss, c_ist, c_isl, c_inl, c_int, b_add, b_sub, b_mul, b_mul0, b_mul1, b_w2, b_w3, v_rd_w, v_un_w, c_eqi, c_nei, c_eqs, c_lt, c_le, c_gt, c_ge, s_t, s_l, t_nm, t_tp, t_0, t_1, u_int, u_bl, u_str, u_non, u_tup, u_lst, u_0, u_1, u_s, l_5, l_4, l_3, l_2, l_1, l_0, n_0, n_1, n_2, n_3, n_4, n_5, n_6, n_7, n_8, n_9, n_10, n_11, n_12, m_0, m_1, m_2, m_3, m_4, m_5, m_6, m_7, m_8, m_9, m_10, m_11, m_12, m_13, m_14, m_15, m_16, i_23, eq_nn, eq_bb, eq_ll, beq_self_eq_true, isTy, fin_bl, fin_int, fin_tup, fin_lst, fin_nx, Option.bind_some, Option.map_some, List.map_cons, List.map_nil, List.length_cons, List.length_nil, List.replicate, List.getElem?_cons_zero, List.getElem?_cons_succ, List.set_cons_zero, List.set_cons_succ, List.cons_append, List.nil_append, List.append_nil, Nat.sub_self, List.take_length, Bool.false_eq_true, reduceIte, Bool.and_true, Bool.true_and, Bool.not_true, Bool.not_false, Bool.false_and, Bool.and_false, Nat.reduceSub, List.replicate_succ, List.replicate_zero, Nat.succ_sub_succ, decide_true, decide_false, Int.reduceEq, Int.reduceLT, Int.reduceLE, Int.reduceNeg, Int.reduceGT, gt_iff_lt, ge_iff_le, Bool.and_assoc, List.any_cons, List.any_nil, Bool.or_true, Bool.true_or, Bool.or_false, Bool.false_or], .inl ?_⟩
      obtain ⟨⟨s, r⟩, hx⟩ : ∃ x, W[i]? = some x := ⟨_, List.getElem?_eq_getElem hi⟩
      obtain ⟨y5, y6, e⟩ := lways_choice fuel k fuel p hp st (.int ((i + 1 : Nat) : Int)) s r allChoices W x5 x6 g (List.mem_of_getElem? hx)
      cases n with
      | zero => omega
      | succ n =>
        have est : stepW (nxS p) allChoices W i = allChoices.foldl (addW (nxS p) s r) W := by unfold stepW; rw [hx]
        refine ⟨n, _, _, Nat.lt_succ_self n, ?_, allChoices.foldl (addW (nxS p) s r) W, i + 1, some s.d, y5, y6, by omega, g.fold hp _ (List.mem_of_getElem? hx), ?_, rfl, rfl⟩
        · have hat := kys_at (kd := Stand.d) hx
          have hi1 : (i : Int) + 1 = ((i + 1 : Nat) : Int) := by omega
          simp -implicitDefEqProofs only [f_law_ways_2, rd_2, hat, hi1, ec, e, r_din, r_din1, r_din2, r_din3, r_pop, r_pop1, r_gt, r_gt1, r_gt2, r_cat, r_cat1, r_cat2, r_cat3, r_sk, r_sk1, r_sk2, r_sk3, r_keys, r_keys1, r_items, r_items1, r_dcm, r_dcm1, r_dcm2, r_dcs, r_dcs1, r_dcs2, r_dcs3, r_dcs4, r_whl, r_dctB, v_rd_ro, r_var, r_glob, r_int, r_bl, r_non, r_str, r_tup, r_tup1, r_lst, r_lst0, r_lst1, r_dct, r_dct1, r_dct2, r_fn, r_bin, r_bin1, r_bin2, r_neg, r_neg1, r_not, r_not1, r_and, r_and1, r_or, r_or1, r_ite, r_ite1, r_kbl, r_cmp, r_cmp1, r_cmp2, r_chain, r_chain1, r_chain2, r_chain3, r_chain4, r_call, r_call1, r_prim, r_prim1, r_primB, r_primB1, r_new, r_sub, r_sub1, r_sub2, r_dsub, r_dsub1, r_dsub2, r_app, r_app1, r_app2, r_get, r_get1, r_get2, r_get3, r_frz, r_frz1, r_es0, r_es, r_es1, r_es2, r_ps0, r_ps, r_ps1, r_ps2, r_ps3, r_o0, r_o, r_o1, r_g0, r_g, r_g1, r_cut, r_cut0, r_cut1, r_cut2, r_comp, r_comp1, r_comp2, r_step, r_step1, r_step2, r_step3, r_walkL0, r_walkL, r_walkL1, r_seq, r_seq1, r_seq2, r_rng1, r_rng1a, r_rng2, r_rng2a, r_rng2b, r_in, r_zip, r_zip1, r_zip2, r_c, r_asg, r_asg1, r_nx, r_set, r_set1, r_set2, r_set3, r_st, r_expr, r_expr1, r_ret, r_ret1, r_if, r_if1, r_pass, r_ss0, r_ss, r_ss1, r_ss2, r_for, r_for1, r_fstep, r_for2, r_walkF0, r_walkF, r_walkF1, r_walkF2, v_rd_int, v_rd_bl, v_rd_str, v_rd_non, v_rd_tup, v_rd_lst, v_rd_dct, v_rR_int, v_rR_bl, v_rR_str, v_rR_non, v_rR_tup, v_rR_lst, v_rR_dct, v_rR_ro, v_rR_box, v_and, v_or, a_0, a_1, a_2, a_3, a_4, p_int, p_inti, p_lenl, p_lent, p_max, p_min, p_abs, p_all3, f_sd, f_w, p_isint, p_isinl, p_isini, p_isinb, p_isins, p_isinn, c_isn, c_isb, c_isi, c_iss, c_ist, c_isl, c_inl, c_int, b_add, b_sub, b_mul, b_mul0, b_mul1, b_w2, b_w3, v_rd_w, v_un_w, c_eqi, c_nei, c_eqs, c_lt, c_le, c_gt, c_ge, s_t, s_l, t_nm, t_tp, t_0, t_1, u_int, u_bl, u_str, u_non, u_tup, u_lst, u_0, u_1, u_s, l_5, l_4, l_3, l_2, l_1, l_0, n_0, n_1, n_2, n_3, n_4, n_5, n_6, n_7, n_8, n_9, n_10, n_11, n_12, m_0, m_1, m_2, m_3, m_4, m_5, m_6, m_7, m_8, m_9, m_10, m_11, m_12, m_13, m_14, m_15, m_16, i_23, eq_nn, eq_bb, eq_ll, beq_self_eq_true, isTy, fin_bl, fin_int, fin_tup, fin_lst, fin_nx, Option.bind_some, Option.map_some, List.map_cons, List.map_nil, List.length_cons, List.length_nil, List.replicate, List.getElem?_cons_zero, List.getElem?_cons_succ, List.set_cons_zero, List.set_cons_succ, List.cons_append, List.nil_append, List.append_nil, Nat.sub_self, List.take_length, Bool.false_eq_true, reduceIte, Bool.and_true, Bool.true_and, Bool.not_true, Bool.not_false, Bool.false_and, Bool.and_false, Nat.reduceSub, List.replicate_succ, List.replicate_zero, Nat.succ_sub_succ, decide_true, decide_false, Int.reduceEq, Int.reduceLT, Int.reduceLE, Int.reduceNeg, Int.reduceGT, gt_iff_lt, ge_iff_le, Bool.and_assoc, List.any_cons, List.any_nil, Bool.or_true, Bool.true_or, Bool.or_false, Bool.false_or]
        · rw [← hb, ← est]
          conv => rhs; unfold bfs
          rw [if_pos hi]
    · left
      have hd : decide ((i : Int) < (W.length : Int)) = false := decide_eq_false (by omega)
      rw [bfs_end _ _ (by omega)] at hb
      refine ⟨by simp -implicitDefEqProofs only [rd_2, kys_len, hd, r_din, r_din1, r_din2, r_din3, r_pop, r_pop1, r_gt, r_gt1, r_gt2, r_cat, r_cat1, r_cat2, r_cat3, r_sk, r_sk1, r_sk2, r_sk3, r_keys, r_keys1, r_items, r_items1, r_dcm, r_dcm1, r_dcm2, r_dcs, r_dcs1, r_dcs2, r_dcs3, r_dcs4, r_whl, r_dctB, v_rd_ro, r_var, r_glob, r_int, r_bl, r_non, r_str, r_tup, r_tup1, r_lst, r_lst0, r_lst1, r_dct, r_dct1, r_dct2, r_fn, r_bin, r_bin1, r_bin2, r_neg, r_neg1, r_not, r_not1, r_and, r_and1, r_or, r_or1, r_ite, r_ite1, r_kbl, r_cmp, r_cmp1, r_cmp2, r_chain, r_chain1, r_chain2, r_chain3, r_chain4, r_call, r_call1, r_prim, r_prim1, r_primB, r_primB1, r_new, r_sub, r_sub1, r_sub2, r_dsub, r_dsub1, r_dsub2, r_app, r_app1, r_app2, r_get, r_get1, r_get2, r_get3, r_frz, r_frz1, r_es0, r_es, r_es1, r_es2, r_ps0, r_ps, r_ps1, r_ps2, r_ps3, r_o0, r_o, r_o1, r_g0, r_g, r_g1, r_cut, r_cut0, r_cut1, r_cut2, r_comp, r_comp1, r_comp2, r_step, r_step1, r_step2, r_step3, r_walkL0, r_walkL, r_walkL1, r_seq, r_seq1, r_seq2, r_rng1, r_rng1a, r_rng2, r_rng2a, r_rng2b, r_in, r_zip, r_zip1, r_zip2, r_c, r_asg, r_asg1, r_nx, r_set, r_set1, r_set2, r_set3, r_st, r_expr, r_expr1, r_ret, r_ret1, r_if, r_if1, r_pass, r_ss0, r_ss, r_ss1, r_ss2, r_for, r_for1, r_fstep, r_for2, r_walkF0, r_walkF, r_walkF1, r_walkF2, v_rd_int, v_rd_bl, v_rd_str, v_rd_non, v_rd_tup, v_rd_lst, v_rd_dct, v_rR_int, v_rR_bl, v_rR_str, v_rR_non, v_rR_tup, v_rR_lst, v_rR_dct, v_rR_ro, v_rR_box, v_and, v_or, a_0, a_1, a_2, a_3, a_4, p_int, p_inti, p_lenl, p_lent, p_max, p_min, p_abs, p_all3, f_sd, f_w, p_isint, p_isinl, p_isini, p_isinb, p_isins, p_isinn, c_isn, c_isb, c_isi, c_iss, c_ist, c_isl, c_inl, c_int, b_add, b_sub, b_mul, b_mul0, b_mul1, b_w2, b_w3, v_rd_w, v_un_w, c_eqi, c_nei, c_eqs, c_lt, c_le, c_gt, c_ge, s_t, s_l, t_nm, t_tp, t_0, t_1, u_int, u_bl, u_str, u_non, u_tup, u_lst, u_0, u_1, u_s, l_5, l_4, l_3, l_2, l_1, l_0, n_0, n_1, n_2, n_3, n_4, n_5, n_6, n_7, n_8, n_9, n_10, n_11, n_12, m_0, m_1, m_2, m_3, m_4, m_5, m_6, m_7, m_8, m_9, m_10, m_11, m_12, m_13, m_14, m_15, m_16, i_23, eq_nn, eq_bb, eq_ll, beq_self_eq_true, isTy, fin_bl, fin_int, fin_tup, fin_lst, fin_nx, Option.bind_some, Option.map_some, List.map_cons, List.map_nil, List.length_cons, List.length_nil, List.replicate, List.getElem?_cons_zero, List.getElem?_cons_succ, List.set_cons_zero, List.set_cons_succ, List.cons_append, List.nil_append, List.append_nil, Nat.sub_self, List.take_length, Bool.false_eq_true, reduceIte, Bool.and_true, Bool.true_and, Bool.not_true, Bool.not_false, Bool.false_and, Bool.and_false, Nat.reduceSub, List.replicate_succ, List.replicate_zero, Nat.succ_sub_succ, decide_true, decide_false, Int.reduceEq, Int.reduceLT, Int.reduceLE, Int.reduceNeg, Int.reduceGT, gt_iff_lt, ge_iff_le, Bool.and_assoc, List.any_cons, List.any_nil, Bool.or_true, Bool.true_or, Bool.or_false, Bool.false_or], some (.int (i : Nat)), x4, x5, x6, rfl, ?_⟩
      rw [hb])
  obtain ⟨rr, st', ew, x3, x4, x5, x6, hr1, hr2⟩ := wl 20 fuel [some p.d, some beginD, some (.box st.length), some (.box (st.length + 1)), some (.int 0), none, none, none] (st ++ [.dct true (kys Stand.d [(⟨0, 0, 1, 0⟩, [])]) (vls runD [(⟨0, 0, 1, 0⟩, [])]), .lst (kys Stand.d [(⟨0, 0, 1, 0⟩, [])])]) (by omega)
    ⟨[(⟨0, 0, 1, 0⟩, [])], 0, none, none, none, rfl, GdP.start p hp, ways_eq p, rfl, rfl⟩
  rw [hr1, hr2] at ew
  rw [call_eq (fn := f_law_ways) rfl rfl]
  have hm : dmake true [(beginD, D.tup [])] ([], []) = some (kys Stand.d [((⟨0, 0, 1, 0⟩ : Stand), ([] : List Choice))], vls runD [((⟨0, 0, 1, 0⟩ : Stand), ([] : List Choice))]) := by rfl
  have hk : [beginD] = kys Stand.d [((⟨0, 0, 1, 0⟩ : Stand), ([] : List Choice))] := by rfl
  have hl : (st ++ [B.dct true (kys Stand.d [((⟨0, 0, 1, 0⟩ : Stand), ([] : List Choice))]) (vls runD [((⟨0, 0, 1, 0⟩ : Stand), ([] : List Choice))])]).length = st.length + 1 := by simp
  have hb : D.tup [.int 0, .int 0, .int 1, .int 0] = beginD := rfl
  have hz : (kys Stand.d [((⟨0, 0, 1, 0⟩ : Stand), ([] : List Choice))]).length ≤ LIM := by decide
  simp -implicitDefEqProofs only [f_law_ways_2] at ew
  simp -implicitDefEqProofs only [f_law_ways, f_law_ways_x0, f_law_ways_x1, f_law_ways_x2, f_law_ways_x3, hb, hm, hk, hl, hz, ew, List.append_assoc, frz_1, f_waysD, tk_2, r_din, r_din1, r_din2, r_din3, r_pop, r_pop1, r_gt, r_gt1, r_gt2, r_cat, r_cat1, r_cat2, r_cat3, r_sk, r_sk1, r_sk2, r_sk3, r_keys, r_keys1, r_items, r_items1, r_dcm, r_dcm1, r_dcm2, r_dcs, r_dcs1, r_dcs2, r_dcs3, r_dcs4, r_whl, r_dctB, v_rd_ro, r_var, r_glob, r_int, r_bl, r_non, r_str, r_tup, r_tup1, r_lst, r_lst0, r_lst1, r_dct, r_dct1, r_dct2, r_fn, r_bin, r_bin1, r_bin2, r_neg, r_neg1, r_not, r_not1, r_and, r_and1, r_or, r_or1, r_ite, r_ite1, r_kbl, r_cmp, r_cmp1, r_cmp2, r_chain, r_chain1, r_chain2, r_chain3, r_chain4, r_call, r_call1, r_prim, r_prim1, r_primB, r_primB1, r_new, r_sub, r_sub1, r_sub2, r_dsub, r_dsub1, r_dsub2, r_app, r_app1, r_app2, r_get, r_get1, r_get2, r_get3, r_frz, r_frz1, r_es0, r_es, r_es1, r_es2, r_ps0, r_ps, r_ps1, r_ps2, r_ps3, r_o0, r_o, r_o1, r_g0, r_g, r_g1, r_cut, r_cut0, r_cut1, r_cut2, r_comp, r_comp1, r_comp2, r_step, r_step1, r_step2, r_step3, r_walkL0, r_walkL, r_walkL1, r_seq, r_seq1, r_seq2, r_rng1, r_rng1a, r_rng2, r_rng2a, r_rng2b, r_in, r_zip, r_zip1, r_zip2, r_c, r_asg, r_asg1, r_nx, r_set, r_set1, r_set2, r_set3, r_st, r_expr, r_expr1, r_ret, r_ret1, r_if, r_if1, r_pass, r_ss0, r_ss, r_ss1, r_ss2, r_for, r_for1, r_fstep, r_for2, r_walkF0, r_walkF, r_walkF1, r_walkF2, v_rd_int, v_rd_bl, v_rd_str, v_rd_non, v_rd_tup, v_rd_lst, v_rd_dct, v_rR_int, v_rR_bl, v_rR_str, v_rR_non, v_rR_tup, v_rR_lst, v_rR_dct, v_rR_ro, v_rR_box, v_and, v_or, a_0, a_1, a_2, a_3, a_4, p_int, p_inti, p_lenl, p_lent, p_max, p_min, p_abs, p_all3, f_sd, f_w, p_isint, p_isinl, p_isini, p_isinb, p_isins, p_isinn, c_isn, c_isb, c_isi, c_iss, c_ist, c_isl, c_inl, c_int, b_add, b_sub, b_mul, b_mul0, b_mul1, b_w2, b_w3, v_rd_w, v_un_w, c_eqi, c_nei, c_eqs, c_lt, c_le, c_gt, c_ge, s_t, s_l, t_nm, t_tp, t_0, t_1, u_int, u_bl, u_str, u_non, u_tup, u_lst, u_0, u_1, u_s, l_5, l_4, l_3, l_2, l_1, l_0, n_0, n_1, n_2, n_3, n_4, n_5, n_6, n_7, n_8, n_9, n_10, n_11, n_12, m_0, m_1, m_2, m_3, m_4, m_5, m_6, m_7, m_8, m_9, m_10, m_11, m_12, m_13, m_14, m_15, m_16, i_23, eq_nn, eq_bb, eq_ll, beq_self_eq_true, isTy, fin_bl, fin_int, fin_tup, fin_lst, fin_nx, Option.bind_some, Option.map_some, List.map_cons, List.map_nil, List.length_cons, List.length_nil, List.replicate, List.getElem?_cons_zero, List.getElem?_cons_succ, List.set_cons_zero, List.set_cons_succ, List.cons_append, List.nil_append, List.append_nil, Nat.sub_self, List.take_length, Bool.false_eq_true, reduceIte, Bool.and_true, Bool.true_and, Bool.not_true, Bool.not_false, Bool.false_and, Bool.and_false, Nat.reduceSub, List.replicate_succ, List.replicate_zero, Nat.succ_sub_succ, decide_true, decide_false, Int.reduceEq, Int.reduceLT, Int.reduceLE, Int.reduceNeg, Int.reduceGT, gt_iff_lt, ge_iff_le, Bool.and_assoc, List.any_cons, List.any_nil, Bool.or_true, Bool.true_or, Bool.or_false, Bool.false_or]
theorem fin_non {n : Nat} {st : Store} : fin n (.rt .non, st) = some (.non, st.take n) := rfl
theorem rR_ways {p : Plan} {st : Store} : rdR st (waysD (ways p)) = waysD (ways p) := rfl
theorem sorted_ways (p : Plan) (hp : p.Ok) : primD .dsorted [waysD (ways p)] = some (.lst ((first p).map Stand.d)) := by
  have c := keys_cd p hp
  have few := c.few hp
  show (if true = true then sortR (kys Stand.d (ways p)) else _).map _ = _
  rw [if_pos rfl]
  show (sortR ((keysP p).map Stand.d)).map _ = _
  rw [sortR_d c.nd (by omega) fun s hs => fits_sm hp (c.fits s hs)]; rfl
theorem led_walk (fuel k fu b : Nat) (p : Plan) (pr : Bool) (x1 : Option D) (st : Store) : ∀ (l acc : List Stand) (x3 : Option D), acc.length + l.length ≤ 100 →
    walkL (cStep ⟨evCall T fuel (k + 3), b, fu⟩ [some p.d, x1, some (.bl pr), x3] [3] (.sub (.call 9 [.var 0, .var 3, .tup [.var 2, .bl false, .bl false]]) (.int 0)) (.name 3) none) (l.map Stand.d) (acc.map Stand.d) st = some ((acc ++ l.map fun s => nxS p s ⟨pr, false, false⟩).map Stand.d, st)
  | [], acc, x3, h => by simp -implicitDefEqProofs [walkL]
  | s :: l, acc, x3, h => by
    have e1 : ∀ st, evCall T fuel (k + 3) 9 [p.d, s.d, .tup [.bl pr, .bl false, .bl false]] st = some (.tup [(nxS p s ⟨pr, false, false⟩).d, words (passed p s ⟨pr, false, false⟩).2], st) := fun st => ev_passed fuel k p s ⟨pr, false, false⟩ st
    have hl : (acc.map Stand.d).length < LIM := by
      simp -implicitDefEqProofs only [List.length_cons, List.length_map] at h ⊢
      unfold LIM; omega
    have h1 := led_walk fuel k fu b p pr x1 st l (acc ++ [nxS p s ⟨pr, false, false⟩]) x3 (by simp -implicitDefEqProofs only [List.length_cons, List.length_append, List.length_nil] at h ⊢; omega)
    have hm : (acc ++ [nxS p s ⟨pr, false, false⟩]).map Stand.d = acc.map Stand.d ++ [(nxS p s ⟨pr, false, false⟩).d] := by simp
    rw [hm] at h1
    simp -implicitDefEqProofs only [List.map_cons (f := Stand.d), wipeE, e1, hl, h1, List.append_assoc, List.map_cons (f := fun s => nxS p s ⟨pr, false, false⟩), r_din, r_din1, r_din2, r_din3, r_pop, r_pop1, r_gt, r_gt1, r_gt2, r_cat, r_cat1, r_cat2, r_cat3, r_sk, r_sk1, r_sk2, r_sk3, r_keys, r_keys1, r_items, r_items1, r_dcm, r_dcm1, r_dcm2, r_dcs, r_dcs1, r_dcs2, r_dcs3, r_dcs4, r_whl, r_dctB, v_rd_ro, r_var, r_glob, r_int, r_bl, r_non, r_str, r_tup, r_tup1, r_lst, r_lst0, r_lst1, r_dct, r_dct1, r_dct2, r_fn, r_bin, r_bin1, r_bin2, r_neg, r_neg1, r_not, r_not1, r_and, r_and1, r_or, r_or1, r_ite, r_ite1, r_kbl, r_cmp, r_cmp1, r_cmp2, r_chain, r_chain1, r_chain2, r_chain3, r_chain4, r_call, r_call1, r_prim, r_prim1, r_primB, r_primB1, r_new, r_sub, r_sub1, r_sub2, r_dsub, r_dsub1, r_dsub2, r_app, r_app1, r_app2, r_get, r_get1, r_get2, r_get3, r_frz, r_frz1, r_es0, r_es, r_es1, r_es2, r_ps0, r_ps, r_ps1, r_ps2, r_ps3, r_o0, r_o, r_o1, r_g0, r_g, r_g1, r_cut, r_cut0, r_cut1, r_cut2, r_comp, r_comp1, r_comp2, r_step, r_step1, r_step2, r_step3, r_walkL0, r_walkL, r_walkL1, r_seq, r_seq1, r_seq2, r_rng1, r_rng1a, r_rng2, r_rng2a, r_rng2b, r_in, r_zip, r_zip1, r_zip2, r_c, r_asg, r_asg1, r_nx, r_set, r_set1, r_set2, r_set3, r_st, r_expr, r_expr1, r_ret, r_ret1, r_if, r_if1, r_pass, r_ss0, r_ss, r_ss1, r_ss2, r_for, r_for1, r_fstep, r_for2, r_walkF0, r_walkF, r_walkF1, r_walkF2, v_rd_int, v_rd_bl, v_rd_str, v_rd_non, v_rd_tup, v_rd_lst, v_rd_dct, v_rR_int, v_rR_bl, v_rR_str, v_rR_non, v_rR_tup, v_rR_lst, v_rR_dct, v_rR_ro, v_rR_box, v_and, v_or, a_0, a_1, a_2, a_3, a_4, p_int, p_inti, p_lenl, p_lent, p_max, p_min, p_abs, p_all3, f_sd, f_w, p_isint, p_isinl, p_isini, p_isinb, p_isins, p_isinn, c_isn, c_isb, c_isi, c_iss, c_ist, c_isl, c_inl, c_int, b_add, b_sub, b_mul, b_mul0, b_mul1, b_w2, b_w3, v_rd_w, v_un_w, c_eqi, c_nei, c_eqs, c_lt, c_le, c_gt, c_ge, s_t, s_l, t_nm, t_tp, t_0, t_1, u_int, u_bl, u_str, u_non, u_tup, u_lst, u_0, u_1, u_s, l_5, l_4, l_3, l_2, l_1, l_0, n_0, n_1, n_2, n_3, n_4, n_5, n_6, n_7, n_8, n_9, n_10, n_11, n_12, m_0, m_1, m_2, m_3, m_4, m_5, m_6, m_7, m_8, m_9, m_10, m_11, m_12, m_13, m_14, m_15, m_16, i_23, eq_nn, eq_bb, eq_ll, beq_self_eq_true, isTy, fin_bl, fin_int, fin_tup, fin_lst, fin_nx, Option.bind_some, Option.map_some, List.map_cons, List.map_nil, List.length_cons, List.length_nil, List.replicate, List.getElem?_cons_zero, List.getElem?_cons_succ, List.set_cons_zero, List.set_cons_succ, List.cons_append, List.nil_append, List.append_nil, Nat.sub_self, List.take_length, Bool.false_eq_true, reduceIte, Bool.and_true, Bool.true_and, Bool.not_true, Bool.not_false, Bool.false_and, Bool.and_false, Nat.reduceSub, List.replicate_succ, List.replicate_zero, Nat.succ_sub_succ, decide_true, decide_false, Int.reduceEq, Int.reduceLT, Int.reduceLE, Int.reduceNeg, Int.reduceGT, gt_iff_lt, ge_iff_le, Bool.and_assoc, List.any_cons, List.any_nil, Bool.or_true, Bool.true_or, Bool.or_false, Bool.false_or]
theorem led_sort (p : Plan) (hp : p.Ok) (l : List Stand) (c : Cd p l) (pr : Bool) : primD .sortset [.lst ((l.map fun s => nxS p s ⟨pr, false, false⟩).map Stand.d)] = some (.lst ((led p l pr).map Stand.d)) := by
  have few := c.few hp
  show (sortSetR _).map _ = _
  rw [sortSet_d (by rw [List.length_map]; omega) fun s hs => by
    obtain ⟨a, ha, rfl⟩ := List.mem_map.mp hs
    exact fits_sm hp (fits_passed p hp a _ (c.fits a ha))]
  rfl
theorem ev_led (fuel k : Nat) (p : Plan) (hp : p.Ok) (l : List Stand) (c : Cd p l) (pr : Bool) (st : Store) : evCall T fuel (k + 4) 12 [p.d, crD l, .bl pr] st = some (crD (led p l pr), st) := by
  have few := c.few hp
  have w := led_walk fuel k fuel st.length p pr (some (crD l)) st l [] none (by simp; omega)
  have hs := led_sort p hp l c pr
  have ht : ∀ xs : List D, primD .tuple [.lst xs] = some (.tup xs) := fun _ => rfl
  rw [call_eq (fn := f_led) rfl rfl]
  simp -implicitDefEqProofs only [List.nil_append, List.map_nil] at w
  simp -implicitDefEqProofs only [crD] at w ⊢
  simp -implicitDefEqProofs only [f_led, f_led_x0, w, hs, ht, u_stands, r_din, r_din1, r_din2, r_din3, r_pop, r_pop1, r_gt, r_gt1, r_gt2, r_cat, r_cat1, r_cat2, r_cat3, r_sk, r_sk1, r_sk2, r_sk3, r_keys, r_keys1, r_items, r_items1, r_dcm, r_dcm1, r_dcm2, r_dcs, r_dcs1, r_dcs2, r_dcs3, r_dcs4, r_whl, r_dctB, v_rd_ro, r_var, r_glob, r_int, r_bl, r_non, r_str, r_tup, r_tup1, r_lst, r_lst0, r_lst1, r_dct, r_dct1, r_dct2, r_fn, r_bin, r_bin1, r_bin2, r_neg, r_neg1, r_not, r_not1, r_and, r_and1, r_or, r_or1, r_ite, r_ite1, r_kbl, r_cmp, r_cmp1, r_cmp2, r_chain, r_chain1, r_chain2, r_chain3, r_chain4, r_call, r_call1, r_prim, r_prim1, r_primB, r_primB1, r_new, r_sub, r_sub1, r_sub2, r_dsub, r_dsub1, r_dsub2, r_app, r_app1, r_app2, r_get, r_get1, r_get2, r_get3, r_frz, r_frz1, r_es0, r_es, r_es1, r_es2, r_ps0, r_ps, r_ps1, r_ps2, r_ps3, r_o0, r_o, r_o1, r_g0, r_g, r_g1, r_cut, r_cut0, r_cut1, r_cut2, r_comp, r_comp1, r_comp2, r_step, r_step1, r_step2, r_step3, r_walkL0, r_walkL, r_walkL1, r_seq, r_seq1, r_seq2, r_rng1, r_rng1a, r_rng2, r_rng2a, r_rng2b, r_in, r_zip, r_zip1, r_zip2, r_c, r_asg, r_asg1, r_nx, r_set, r_set1, r_set2, r_set3, r_st, r_expr, r_expr1, r_ret, r_ret1, r_if, r_if1, r_pass, r_ss0, r_ss, r_ss1, r_ss2, r_for, r_for1, r_fstep, r_for2, r_walkF0, r_walkF, r_walkF1, r_walkF2, v_rd_int, v_rd_bl, v_rd_str, v_rd_non, v_rd_tup, v_rd_lst, v_rd_dct, v_rR_int, v_rR_bl, v_rR_str, v_rR_non, v_rR_tup, v_rR_lst, v_rR_dct, v_rR_ro, v_rR_box, v_and, v_or, a_0, a_1, a_2, a_3, a_4, p_int, p_inti, p_lenl, p_lent, p_max, p_min, p_abs, p_all3, f_sd, f_w, p_isint, p_isinl, p_isini, p_isinb, p_isins, p_isinn, c_isn, c_isb, c_isi, c_iss, c_ist, c_isl, c_inl, c_int, b_add, b_sub, b_mul, b_mul0, b_mul1, b_w2, b_w3, v_rd_w, v_un_w, c_eqi, c_nei, c_eqs, c_lt, c_le, c_gt, c_ge, s_t, s_l, t_nm, t_tp, t_0, t_1, u_int, u_bl, u_str, u_non, u_tup, u_lst, u_0, u_1, u_s, l_5, l_4, l_3, l_2, l_1, l_0, n_0, n_1, n_2, n_3, n_4, n_5, n_6, n_7, n_8, n_9, n_10, n_11, n_12, m_0, m_1, m_2, m_3, m_4, m_5, m_6, m_7, m_8, m_9, m_10, m_11, m_12, m_13, m_14, m_15, m_16, i_23, eq_nn, eq_bb, eq_ll, beq_self_eq_true, isTy, fin_bl, fin_int, fin_tup, fin_lst, fin_nx, Option.bind_some, Option.map_some, List.map_cons, List.map_nil, List.length_cons, List.length_nil, List.replicate, List.getElem?_cons_zero, List.getElem?_cons_succ, List.set_cons_zero, List.set_cons_succ, List.cons_append, List.nil_append, List.append_nil, Nat.sub_self, List.take_length, Bool.false_eq_true, reduceIte, Bool.and_true, Bool.true_and, Bool.not_true, Bool.not_false, Bool.false_and, Bool.and_false, Nat.reduceSub, List.replicate_succ, List.replicate_zero, Nat.succ_sub_succ, decide_true, decide_false, Int.reduceEq, Int.reduceLT, Int.reduceLE, Int.reduceNeg, Int.reduceGT, gt_iff_lt, ge_iff_le, Bool.and_assoc, List.any_cons, List.any_nil, Bool.or_true, Bool.true_or, Bool.or_false, Bool.false_or]
theorem shut_walk (c : Ev.Ctx) (st : Store) (x0 : Option D) : ∀ (l : List Stand) (acc : List D) (x1 : Option D), acc.length + l.length ≤ 100 →
    walkL (cStep c [x0, x1] [1] (.cmp .eq (.cut (.var 1) none (some (.int 2))) (.tup [.int 0, .int 0])) (.name 1) none) (l.map Stand.d) acc st = some (acc ++ l.map (fun s => .bl (decide (s.h = 0) && decide (s.m = 0))), st)
  | [], acc, x1, h => by simp -implicitDefEqProofs [walkL]
  | s :: l, acc, x1, h => by
    have hl : acc.length < LIM := by
      simp -implicitDefEqProofs only [List.length_cons] at h
      unfold LIM; omega
    have h1 := shut_walk c st x0 l (acc ++ [.bl (decide (s.h = 0) && decide (s.m = 0))]) x1 (by simp -implicitDefEqProofs only [List.length_cons, List.length_append, List.length_nil] at h ⊢; omega)
    have hc : kCut st s.d none (some 2) = some (.tup [.int s.h, .int s.m], st) := rfl
    have he : cmpD .eq (.tup [.int s.h, .int s.m]) (.tup [.int 0, .int 0]) = some (decide (s.h = 0) && decide (s.m = 0)) := by
      show eqD _ _ = _
      unfold eqD
      rw [if_pos (by simp -implicitDefEqProofs [scal, D.pl, D.pls])]
      simp -implicitDefEqProofs only [D.eqv, D.eqvs, Bool.and_true]
      rfl
    simp -implicitDefEqProofs only [List.map_cons (f := Stand.d), wipeE, hc, he, hl, h1, List.append_assoc, List.map_cons (f := fun s : Stand => D.bl (decide (s.h = 0) && decide (s.m = 0))), r_din, r_din1, r_din2, r_din3, r_pop, r_pop1, r_gt, r_gt1, r_gt2, r_cat, r_cat1, r_cat2, r_cat3, r_sk, r_sk1, r_sk2, r_sk3, r_keys, r_keys1, r_items, r_items1, r_dcm, r_dcm1, r_dcm2, r_dcs, r_dcs1, r_dcs2, r_dcs3, r_dcs4, r_whl, r_dctB, v_rd_ro, r_var, r_glob, r_int, r_bl, r_non, r_str, r_tup, r_tup1, r_lst, r_lst0, r_lst1, r_dct, r_dct1, r_dct2, r_fn, r_bin, r_bin1, r_bin2, r_neg, r_neg1, r_not, r_not1, r_and, r_and1, r_or, r_or1, r_ite, r_ite1, r_kbl, r_cmp, r_cmp1, r_cmp2, r_chain, r_chain1, r_chain2, r_chain3, r_chain4, r_call, r_call1, r_prim, r_prim1, r_primB, r_primB1, r_new, r_sub, r_sub1, r_sub2, r_dsub, r_dsub1, r_dsub2, r_app, r_app1, r_app2, r_get, r_get1, r_get2, r_get3, r_frz, r_frz1, r_es0, r_es, r_es1, r_es2, r_ps0, r_ps, r_ps1, r_ps2, r_ps3, r_o0, r_o, r_o1, r_g0, r_g, r_g1, r_cut, r_cut0, r_cut1, r_cut2, r_comp, r_comp1, r_comp2, r_step, r_step1, r_step2, r_step3, r_walkL0, r_walkL, r_walkL1, r_seq, r_seq1, r_seq2, r_rng1, r_rng1a, r_rng2, r_rng2a, r_rng2b, r_in, r_zip, r_zip1, r_zip2, r_c, r_asg, r_asg1, r_nx, r_set, r_set1, r_set2, r_set3, r_st, r_expr, r_expr1, r_ret, r_ret1, r_if, r_if1, r_pass, r_ss0, r_ss, r_ss1, r_ss2, r_for, r_for1, r_fstep, r_for2, r_walkF0, r_walkF, r_walkF1, r_walkF2, v_rd_int, v_rd_bl, v_rd_str, v_rd_non, v_rd_tup, v_rd_lst, v_rd_dct, v_rR_int, v_rR_bl, v_rR_str, v_rR_non, v_rR_tup, v_rR_lst, v_rR_dct, v_rR_ro, v_rR_box, v_and, v_or, a_0, a_1, a_2, a_3, a_4, p_int, p_inti, p_lenl, p_lent, p_max, p_min, p_abs, p_all3, f_sd, f_w, p_isint, p_isinl, p_isini, p_isinb, p_isins, p_isinn, c_isn, c_isb, c_isi, c_iss, c_ist, c_isl, c_inl, c_int, b_add, b_sub, b_mul, b_mul0, b_mul1, b_w2, b_w3, v_rd_w, v_un_w, c_eqi, c_nei, c_eqs, c_lt, c_le, c_gt, c_ge, s_t, s_l, t_nm, t_tp, t_0, t_1, u_int, u_bl, u_str, u_non, u_tup, u_lst, u_0, u_1, u_s, l_5, l_4, l_3, l_2, l_1, l_0, n_0, n_1, n_2, n_3, n_4, n_5, n_6, n_7, n_8, n_9, n_10, n_11, n_12, m_0, m_1, m_2, m_3, m_4, m_5, m_6, m_7, m_8, m_9, m_10, m_11, m_12, m_13, m_14, m_15, m_16, i_23, eq_nn, eq_bb, eq_ll, beq_self_eq_true, isTy, fin_bl, fin_int, fin_tup, fin_lst, fin_nx, Option.bind_some, Option.map_some, List.map_cons, List.map_nil, List.length_cons, List.length_nil, List.replicate, List.getElem?_cons_zero, List.getElem?_cons_succ, List.set_cons_zero, List.set_cons_succ, List.cons_append, List.nil_append, List.append_nil, Nat.sub_self, List.take_length, Bool.false_eq_true, reduceIte, Bool.and_true, Bool.true_and, Bool.not_true, Bool.not_false, Bool.false_and, Bool.and_false, Nat.reduceSub, List.replicate_succ, List.replicate_zero, Nat.succ_sub_succ, decide_true, decide_false, Int.reduceEq, Int.reduceLT, Int.reduceLE, Int.reduceNeg, Int.reduceGT, gt_iff_lt, ge_iff_le, Bool.and_assoc, List.any_cons, List.any_nil, Bool.or_true, Bool.true_or, Bool.or_false, Bool.false_or]
theorem bools_map {α : Type} (f : α → Bool) : ∀ l : List α, bools (l.map fun s => .bl (f s)) = some (l.map f)
  | [] => rfl
  | a :: l => by simp -implicitDefEqProofs [bools, bools_map f l]
theorem ev_is_shut (fuel k : Nat) (l : List Stand) (hl : l.length ≤ 16) (st : Store) : evCall T fuel (k + 1) 13 [crD l] st = some (.bl (shut l), st) := by
  have w := shut_walk ⟨evCall T fuel k, st.length, fuel⟩ st (some (crD l)) l [] none (by simp; omega)
  have ha : primD .all [.lst (l.map fun s => .bl (decide (s.h = 0) && decide (s.m = 0)))] = some (.bl (shut l)) := by
    show (bools _).map _ = _
    rw [bools_map fun s : Stand => decide (s.h = 0) && decide (s.m = 0)]
    simp -implicitDefEqProofs [shut, List.all_map]
  rw [call_eq (fn := f_is_shut) rfl rfl]
  simp -implicitDefEqProofs only [List.nil_append] at w
  simp -implicitDefEqProofs only [crD] at w ⊢
  simp -implicitDefEqProofs only [f_is_shut, f_is_shut_x0, w, ha, r_din, r_din1, r_din2, r_din3, r_pop, r_pop1, r_gt, r_gt1, r_gt2, r_cat, r_cat1, r_cat2, r_cat3, r_sk, r_sk1, r_sk2, r_sk3, r_keys, r_keys1, r_items, r_items1, r_dcm, r_dcm1, r_dcm2, r_dcs, r_dcs1, r_dcs2, r_dcs3, r_dcs4, r_whl, r_dctB, v_rd_ro, r_var, r_glob, r_int, r_bl, r_non, r_str, r_tup, r_tup1, r_lst, r_lst0, r_lst1, r_dct, r_dct1, r_dct2, r_fn, r_bin, r_bin1, r_bin2, r_neg, r_neg1, r_not, r_not1, r_and, r_and1, r_or, r_or1, r_ite, r_ite1, r_kbl, r_cmp, r_cmp1, r_cmp2, r_chain, r_chain1, r_chain2, r_chain3, r_chain4, r_call, r_call1, r_prim, r_prim1, r_primB, r_primB1, r_new, r_sub, r_sub1, r_sub2, r_dsub, r_dsub1, r_dsub2, r_app, r_app1, r_app2, r_get, r_get1, r_get2, r_get3, r_frz, r_frz1, r_es0, r_es, r_es1, r_es2, r_ps0, r_ps, r_ps1, r_ps2, r_ps3, r_o0, r_o, r_o1, r_g0, r_g, r_g1, r_cut, r_cut0, r_cut1, r_cut2, r_comp, r_comp1, r_comp2, r_step, r_step1, r_step2, r_step3, r_walkL0, r_walkL, r_walkL1, r_seq, r_seq1, r_seq2, r_rng1, r_rng1a, r_rng2, r_rng2a, r_rng2b, r_in, r_zip, r_zip1, r_zip2, r_c, r_asg, r_asg1, r_nx, r_set, r_set1, r_set2, r_set3, r_st, r_expr, r_expr1, r_ret, r_ret1, r_if, r_if1, r_pass, r_ss0, r_ss, r_ss1, r_ss2, r_for, r_for1, r_fstep, r_for2, r_walkF0, r_walkF, r_walkF1, r_walkF2, v_rd_int, v_rd_bl, v_rd_str, v_rd_non, v_rd_tup, v_rd_lst, v_rd_dct, v_rR_int, v_rR_bl, v_rR_str, v_rR_non, v_rR_tup, v_rR_lst, v_rR_dct, v_rR_ro, v_rR_box, v_and, v_or, a_0, a_1, a_2, a_3, a_4, p_int, p_inti, p_lenl, p_lent, p_max, p_min, p_abs, p_all3, f_sd, f_w, p_isint, p_isinl, p_isini, p_isinb, p_isins, p_isinn, c_isn, c_isb, c_isi, c_iss, c_ist, c_isl, c_inl, c_int, b_add, b_sub, b_mul, b_mul0, b_mul1, b_w2, b_w3, v_rd_w, v_un_w, c_eqi, c_nei, c_eqs, c_lt, c_le, c_gt, c_ge, s_t, s_l, t_nm, t_tp, t_0, t_1, u_int, u_bl, u_str, u_non, u_tup, u_lst, u_0, u_1, u_s, l_5, l_4, l_3, l_2, l_1, l_0, n_0, n_1, n_2, n_3, n_4, n_5, n_6, n_7, n_8, n_9, n_10, n_11, n_12, m_0, m_1, m_2, m_3, m_4, m_5, m_6, m_7, m_8, m_9, m_10, m_11, m_12, m_13, m_14, m_15, m_16, i_23, eq_nn, eq_bb, eq_ll, beq_self_eq_true, isTy, fin_bl, fin_int, fin_tup, fin_lst, fin_nx, Option.bind_some, Option.map_some, List.map_cons, List.map_nil, List.length_cons, List.length_nil, List.replicate, List.getElem?_cons_zero, List.getElem?_cons_succ, List.set_cons_zero, List.set_cons_succ, List.cons_append, List.nil_append, List.append_nil, Nat.sub_self, List.take_length, Bool.false_eq_true, reduceIte, Bool.and_true, Bool.true_and, Bool.not_true, Bool.not_false, Bool.false_and, Bool.and_false, Nat.reduceSub, List.replicate_succ, List.replicate_zero, Nat.succ_sub_succ, decide_true, decide_false, Int.reduceEq, Int.reduceLT, Int.reduceLE, Int.reduceNeg, Int.reduceGT, gt_iff_lt, ge_iff_le, Bool.and_assoc, List.any_cons, List.any_nil, Bool.or_true, Bool.true_or, Bool.or_false, Bool.false_or]
/-- what the walk keeps -/
structure GdC (p : Plan) (W : List (List Stand × List Bool)) : Prop where
  gd : Gd (allC p) W
  runs : ∀ x ∈ W, x.2.length < W.length
theorem GdC.add {p : Plan} (hp : p.Ok) {W : List (List Stand × List Bool)} (g : GdC p W) {s : List Stand} {r : List Bool} (hm : (s, r) ∈ W) (c : Bool) : GdC p (addW (led p) s r W c) := by
  refine ⟨g.gd.add (led_in p hp (g.gd.sub _ hm) c), ?_⟩
  unfold addW
  split
  · exact g.runs
  · intro x hx
    rw [List.length_append, List.length_singleton]
    rcases List.mem_append.mp hx with hx | hx
    · have := g.runs x hx; omega
    · have e : x = (led p s c, r ++ [c]) := by simpa using hx
      subst e
      have := g.runs _ hm
      simp -implicitDefEqProofs only [List.length_append, List.length_singleton] at this ⊢
      omega
theorem GdC.few {p : Plan} (hp : p.Ok) {W : List (List Stand × List Bool)} (g : GdC p W) : W.length ≤ 65536 := Nat.le_trans g.gd.len (allC_len p hp)
theorem GdC.start (p : Plan) (hp : p.Ok) : GdC p [(first p, [])] := by
  refine ⟨⟨by simp, fun x hx => ?_⟩, fun x hx => ?_⟩ <;> (have e : x = (first p, ([] : List Bool)) := by simpa using hx) <;> subst e
  · exact first_in p hp
  · simp
theorem row_snoc {r : List Bool} {c : Bool} : r.map D.bl ++ [.bl c] = (r ++ [c]).map .bl := by simp
theorem row_press (fuel k fu : Nat) (p : Plan) (hp : p.Ok) (st : Store) (x1 : Option D) (i : D) (s : List Stand) (r : List Bool) : ∀ (cs : List Bool) (W : List (List Stand × List Bool)) (x6 x7 : Option D), GdC p W → (s, r) ∈ W →
    ∃ y6 y7, walkF (fStep ⟨evCall T fuel (k + 4), st.length, fu⟩ (.name 6) [.asg (.name 7) (.call 12 [.var 0, .var 5, .var 6]),
      .ite (.din true (.var 7) (.var 2))
        [.setK (.var 2) (.var 7) (.bin .add (.dsub (.var 2) (.var 5)) (.tup [.var 6])),
        .expr (.append (.var 3) (.var 7))]
        []]) (cs.map D.bl) [some p.d, x1, some (.box st.length), some (.box (st.length + 1)), some i, some (crD s), x6, x7] (st ++ [.dct true (kys crD W) (vls rwD W), .lst (kys crD W)]) =
      some (.nx [some p.d, x1, some (.box st.length), some (.box (st.length + 1)), some i, some (crD s), y6, y7], st ++ [.dct true (kys crD (cs.foldl (addW (led p) s r) W)) (vls rwD (cs.foldl (addW (led p) s r) W)), .lst (kys crD (cs.foldl (addW (led p) s r) W))]) ∧ GdC p (cs.foldl (addW (led p) s r) W)
  | [], W, x6, x7, g, hm => ⟨x6, x7, rfl, g⟩
  | c :: cs, W, x6, x7, g, hm => by
    obtain ⟨y6, y7, ih, g'⟩ := row_press fuel k fu p hp st x1 i s r cs (addW (led p) s r W c) (some (.bl c)) (some (crD (led p s c))) (g.add hp hm c) (addW_mem hm)
    refine ⟨y6, y7, ?_, g'⟩
    have e1 := fun st => ev_led fuel k p hp s (allC_cd p hp (g.gd.sub _ hm)) c st
    have few := g.few hp
    have hsub := dsub_w (vd := rwD) kd_crowd g.gd.nd hm
    have hr := g.runs _ hm
    simp only at hr
    have hlim : (kys crD W).length < LIM := by rw [kys_len]; unfold LIM; omega
    have hadd : binD .add (rwD r) (.tup [.bl c]) = some (rwD (r ++ [c])) := by
      show binD .add (.tup _) _ = _
      rw [b_addt (by simp -implicitDefEqProofs only [List.length_map, List.length_cons, List.length_nil]; unfold LIM; omega), row_snoc]; rfl
    have hfit := kd_crowd.fits (led p s c)
    have hrd : ∀ st : Store, rd st (rwD r) = rwD r := fun _ => rfl
    simp -implicitDefEqProofs only [List.foldl_cons]
    rw [← ih]
    unfold addW
    by_cases hn : led p s c ∈ W.map (·.1)
    · have hdin : ∀ vs, dinD (.dct true (kys crD W) vs) (crD (led p s c)) = some true := fun vs => din_yes kd_crowd hn
      rw [if_pos hn]
      simp -implicitDefEqProofs only [List.map_cons (f := D.bl), e1, rd_1, hdin, bne_self_eq_false, r_din, r_din1, r_din2, r_din3, r_pop, r_pop1, r_gt, r_gt1, r_gt2, r_cat, r_cat1, r_cat2, r_cat3, r_sk, r_sk1, r_sk2, r_sk3, r_keys, r_keys1, r_items, r_items1, r_dcm, r_dcm1, r_dcm2, r_dcs, r_dcs1, r_dcs2, r_dcs3, r_dcs4, r_whl, r_dctB, v_rd_ro, r_var, r_glob, r_int, r_bl, r_non, r_str, r_tup, r_tup1, r_lst, r_lst0, r_lst1, r_dct, r_dct1, r_dct2, r_fn, r_bin, r_bin1, r_bin2, r_neg, r_neg1, r_not, r_not1, r_and, r_and1, r_or, r_or1, r_ite, r_ite1, r_kbl, r_cmp, r_cmp1, r_cmp2, r_chain, r_chain1, r_chain2, r_chain3, r_chain4, r_call, r_call1, r_prim, r_prim1, r_primB, r_primB1, r_new, r_sub, r_sub1, r_sub2, r_dsub, r_dsub1, r_dsub2, r_app, r_app1, r_app2, r_get, r_get1, r_get2, r_get3, r_frz, r_frz1, r_es0, r_es, r_es1, r_es2, r_ps0, r_ps, r_ps1, r_ps2, r_ps3, r_o0, r_o, r_o1, r_g0, r_g, r_g1, r_cut, r_cut0, r_cut1, r_cut2, r_comp, r_comp1, r_comp2, r_step, r_step1, r_step2, r_step3, r_walkL0, r_walkL, r_walkL1, r_seq, r_seq1, r_seq2, r_rng1, r_rng1a, r_rng2, r_rng2a, r_rng2b, r_in, r_zip, r_zip1, r_zip2, r_c, r_asg, r_asg1, r_nx, r_set, r_set1, r_set2, r_set3, r_st, r_expr, r_expr1, r_ret, r_ret1, r_if, r_if1, r_pass, r_ss0, r_ss, r_ss1, r_ss2, r_for, r_for1, r_fstep, r_for2, r_walkF0, r_walkF, r_walkF1, r_walkF2, v_rd_int, v_rd_bl, v_rd_str, v_rd_non, v_rd_tup, v_rd_lst, v_rd_dct, v_rR_int, v_rR_bl, v_rR_str, v_rR_non, v_rR_tup, v_rR_lst, v_rR_dct, v_rR_ro, v_rR_box, v_and, v_or, a_0, a_1, a_2, a_3, a_4, p_int, p_inti, p_lenl, p_lent, p_max, p_min, p_abs, p_all3, f_sd, f_w, p_isint, p_isinl, p_isini, p_isinb, p_isins, p_isinn, c_isn, c_isb, c_isi, c_iss, c_ist, c_isl, c_inl, c_int, b_add, b_sub, b_mul, b_mul0, b_mul1, b_w2, b_w3, v_rd_w, v_un_w, c_eqi, c_nei, c_eqs, c_lt, c_le, c_gt, c_ge, s_t, s_l, t_nm, t_tp, t_0, t_1, u_int, u_bl, u_str, u_non, u_tup, u_lst, u_0, u_1, u_s, l_5, l_4, l_3, l_2, l_1, l_0, n_0, n_1, n_2, n_3, n_4, n_5, n_6, n_7, n_8, n_9, n_10, n_11, n_12, m_0, m_1, m_2, m_3, m_4, m_5, m_6, m_7, m_8, m_9, m_10, m_11, m_12, m_13, m_14, m_15, m_16, i_23, eq_nn, eq_bb, eq_ll, beq_self_eq_true, isTy, fin_bl, fin_int, fin_tup, fin_lst, fin_nx, Option.bind_some, Option.map_some, List.map_cons, List.map_nil, List.length_cons, List.length_nil, List.replicate, List.getElem?_cons_zero, List.getElem?_cons_succ, List.set_cons_zero, List.set_cons_succ, List.cons_append, List.nil_append, List.append_nil, Nat.sub_self, List.take_length, Bool.false_eq_true, reduceIte, Bool.and_true, Bool.true_and, Bool.not_true, Bool.not_false, Bool.false_and, Bool.and_false, Nat.reduceSub, List.replicate_succ, List.replicate_zero, Nat.succ_sub_succ, decide_true, decide_false, Int.reduceEq, Int.reduceLT, Int.reduceLE, Int.reduceNeg, Int.reduceGT, gt_iff_lt, ge_iff_le, Bool.and_assoc, List.any_cons, List.any_nil, Bool.or_true, Bool.true_or, Bool.or_false, Bool.false_or]
    · have hdin : ∀ vs, dinD (.dct true (kys crD W) vs) (crD (led p s c)) = some false := fun vs => din_no kd_crowd hn
      rw [if_neg hn]
      have hput := dput_w (vd := rwD) (b := r ++ [c]) kd_crowd hn
      simp -implicitDefEqProofs only [List.map_cons (f := D.bl), e1, rd_1, rd_2, hdin, hsub, hadd, setK_1, hfit, hlim, hput, isLB_2, app_2, kys_snoc (b := r ++ [c]), Bool.bne_true, bne_self_eq_false, Bool.false_bne, hrd, r_din, r_din1, r_din2, r_din3, r_pop, r_pop1, r_gt, r_gt1, r_gt2, r_cat, r_cat1, r_cat2, r_cat3, r_sk, r_sk1, r_sk2, r_sk3, r_keys, r_keys1, r_items, r_items1, r_dcm, r_dcm1, r_dcm2, r_dcs, r_dcs1, r_dcs2, r_dcs3, r_dcs4, r_whl, r_dctB, v_rd_ro, r_var, r_glob, r_int, r_bl, r_non, r_str, r_tup, r_tup1, r_lst, r_lst0, r_lst1, r_dct, r_dct1, r_dct2, r_fn, r_bin, r_bin1, r_bin2, r_neg, r_neg1, r_not, r_not1, r_and, r_and1, r_or, r_or1, r_ite, r_ite1, r_kbl, r_cmp, r_cmp1, r_cmp2, r_chain, r_chain1, r_chain2, r_chain3, r_chain4, r_call, r_call1, r_prim, r_prim1, r_primB, r_primB1, r_new, r_sub, r_sub1, r_sub2, r_dsub, r_dsub1, r_dsub2, r_app, r_app1, r_app2, r_get, r_get1, r_get2, r_get3, r_frz, r_frz1, r_es0, r_es, r_es1, r_es2, r_ps0, r_ps, r_ps1, r_ps2, r_ps3, r_o0, r_o, r_o1, r_g0, r_g, r_g1, r_cut, r_cut0, r_cut1, r_cut2, r_comp, r_comp1, r_comp2, r_step, r_step1, r_step2, r_step3, r_walkL0, r_walkL, r_walkL1, r_seq, r_seq1, r_seq2, r_rng1, r_rng1a, r_rng2, r_rng2a, r_rng2b, r_in, r_zip, r_zip1, r_zip2, r_c, r_asg, r_asg1, r_nx, r_set, r_set1, r_set2, r_set3, r_st, r_expr, r_expr1, r_ret, r_ret1, r_if, r_if1, r_pass, r_ss0, r_ss, r_ss1, r_ss2, r_for, r_for1, r_fstep, r_for2, r_walkF0, r_walkF, r_walkF1, r_walkF2, v_rd_int, v_rd_bl, v_rd_str, v_rd_non, v_rd_tup, v_rd_lst, v_rd_dct, v_rR_int, v_rR_bl, v_rR_str, v_rR_non, v_rR_tup, v_rR_lst, v_rR_dct, v_rR_ro, v_rR_box, v_and, v_or, a_0, a_1, a_2, a_3, a_4, p_int, p_inti, p_lenl, p_lent, p_max, p_min, p_abs, p_all3, f_sd, f_w, p_isint, p_isinl, p_isini, p_isinb, p_isins, p_isinn, c_isn, c_isb, c_isi, c_iss, c_ist, c_isl, c_inl, c_int, b_add, b_sub, b_mul, b_mul0, b_mul1, b_w2, b_w3, v_rd_w, v_un_w, c_eqi, c_nei, c_eqs, c_lt, c_le, c_gt, c_ge, s_t, s_l, t_nm, t_tp, t_0, t_1, u_int, u_bl, u_str, u_non, u_tup, u_lst, u_0, u_1, u_s, l_5, l_4, l_3, l_2, l_1, l_0, n_0, n_1, n_2, n_3, n_4, n_5, n_6, n_7, n_8, n_9, n_10, n_11, n_12, m_0, m_1, m_2, m_3, m_4, m_5, m_6, m_7, m_8, m_9, m_10, m_11, m_12, m_13, m_14, m_15, m_16, i_23, eq_nn, eq_bb, eq_ll, beq_self_eq_true, isTy, fin_bl, fin_int, fin_tup, fin_lst, fin_nx, Option.bind_some, Option.map_some, List.map_cons, List.map_nil, List.length_cons, List.length_nil, List.replicate, List.getElem?_cons_zero, List.getElem?_cons_succ, List.set_cons_zero, List.set_cons_succ, List.cons_append, List.nil_append, List.append_nil, Nat.sub_self, List.take_length, Bool.false_eq_true, reduceIte, Bool.and_true, Bool.true_and, Bool.not_true, Bool.not_false, Bool.false_and, Bool.and_false, Nat.reduceSub, List.replicate_succ, List.replicate_zero, Nat.succ_sub_succ, decide_true, decide_false, Int.reduceEq, Int.reduceLT, Int.reduceLE, Int.reduceNeg, Int.reduceGT, gt_iff_lt, ge_iff_le, Bool.and_assoc, List.any_cons, List.any_nil, Bool.or_true, Bool.true_or, Bool.or_false, Bool.false_or]
/-- a row, or none -/
def dueD : Option (List Bool) → D
  | some r => rwD r
  | none => .non
theorem u_row {n : Nat} : ∀ r : List Bool, D.unders n (r.map .bl) = true
  | [] => by simp -implicitDefEqProofs [D.unders]
  | c :: r => by simp -implicitDefEqProofs [D.unders, D.under, u_row r]
theorem ev_row_by (fuel k : Nat) (hf : 66000 ≤ fuel) (p : Plan) (hp : p.Ok) (st : Store) : evCall T fuel (k + 5) 14 [p.d] st = some (dueD (dueRow p), st) := by
  have ew := fun st => ev_ways_by fuel k (by omega) p hp st
  have wl := while_ok (c := evC ⟨evCall T fuel (k + 4), st.length, fuel⟩ (.cmp .lt (.var 4) (.prim .len [.var 3]))) (step := evSs ⟨evCall T fuel (k + 4), st.length, fuel⟩ (match f_row_by_2 with | .whl _ b :: _ => b | _ => []))
    (P := fun n ρ st' => ∃ W i fn Q met x5 x6 x7, n + i = 65537 ∧ GdC p W ∧ RelQ W i Q met ∧ Fu 65536 fn Q met ∧ fifo (led p) [false, true] shut fn Q met = dueRow p ∧ Mts (allC p) Q met ∧ ρ = [some p.d, some (crD (first p)), some (.box st.length), some (.box (st.length + 1)), some (.int (i : Nat)), x5, x6, x7] ∧ st' = st ++ [.dct true (kys crD W) (vls rwD W), .lst (kys crD W)])
    (Q := fun r st' => (∃ W, st' = st ++ [.dct true (kys crD W) (vls rwD W), .lst (kys crD W)]) ∧ ((dueRow p = none ∧ ∃ ρ, r = .nx ρ) ∨ ∃ row, dueRow p = some row ∧ r = .rt (rwD row))) (by
    rintro n ρ st' ⟨W, i, fn, Q, met, x5, x6, x7, hn, g, rel, f, e, m, rfl, rfl⟩
    have few := g.few hp
    rcases rel.pop f e m (allC_len p hp) (by decide) (led_cl p hp) with ⟨hle, hdue⟩ | ⟨c, r, hget, hcase⟩
    · left
      have hd : decide ((i : Int) < (W.length : Int)) = false := decide_eq_false (by omega)
      exact ⟨by simp -implicitDefEqProofs only [rd_2, kys_len, hd, r_din, r_din1, r_din2, r_din3, r_pop, r_pop1, r_gt, r_gt1, r_gt2, r_cat, r_cat1, r_cat2, r_cat3, r_sk, r_sk1, r_sk2, r_sk3, r_keys, r_keys1, r_items, r_items1, r_dcm, r_dcm1, r_dcm2, r_dcs, r_dcs1, r_dcs2, r_dcs3, r_dcs4, r_whl, r_dctB, v_rd_ro, r_var, r_glob, r_int, r_bl, r_non, r_str, r_tup, r_tup1, r_lst, r_lst0, r_lst1, r_dct, r_dct1, r_dct2, r_fn, r_bin, r_bin1, r_bin2, r_neg, r_neg1, r_not, r_not1, r_and, r_and1, r_or, r_or1, r_ite, r_ite1, r_kbl, r_cmp, r_cmp1, r_cmp2, r_chain, r_chain1, r_chain2, r_chain3, r_chain4, r_call, r_call1, r_prim, r_prim1, r_primB, r_primB1, r_new, r_sub, r_sub1, r_sub2, r_dsub, r_dsub1, r_dsub2, r_app, r_app1, r_app2, r_get, r_get1, r_get2, r_get3, r_frz, r_frz1, r_es0, r_es, r_es1, r_es2, r_ps0, r_ps, r_ps1, r_ps2, r_ps3, r_o0, r_o, r_o1, r_g0, r_g, r_g1, r_cut, r_cut0, r_cut1, r_cut2, r_comp, r_comp1, r_comp2, r_step, r_step1, r_step2, r_step3, r_walkL0, r_walkL, r_walkL1, r_seq, r_seq1, r_seq2, r_rng1, r_rng1a, r_rng2, r_rng2a, r_rng2b, r_in, r_zip, r_zip1, r_zip2, r_c, r_asg, r_asg1, r_nx, r_set, r_set1, r_set2, r_set3, r_st, r_expr, r_expr1, r_ret, r_ret1, r_if, r_if1, r_pass, r_ss0, r_ss, r_ss1, r_ss2, r_for, r_for1, r_fstep, r_for2, r_walkF0, r_walkF, r_walkF1, r_walkF2, v_rd_int, v_rd_bl, v_rd_str, v_rd_non, v_rd_tup, v_rd_lst, v_rd_dct, v_rR_int, v_rR_bl, v_rR_str, v_rR_non, v_rR_tup, v_rR_lst, v_rR_dct, v_rR_ro, v_rR_box, v_and, v_or, a_0, a_1, a_2, a_3, a_4, p_int, p_inti, p_lenl, p_lent, p_max, p_min, p_abs, p_all3, f_sd, f_w, p_isint, p_isinl, p_isini, p_isinb, p_isins, p_isinn, c_isn, c_isb, c_isi, c_iss, c_ist, c_isl, c_inl, c_int, b_add, b_sub, b_mul, b_mul0, b_mul1, b_w2, b_w3, v_rd_w, v_un_w, c_eqi, c_nei, c_eqs, c_lt, c_le, c_gt, c_ge, s_t, s_l, t_nm, t_tp, t_0, t_1, u_int, u_bl, u_str, u_non, u_tup, u_lst, u_0, u_1, u_s, l_5, l_4, l_3, l_2, l_1, l_0, n_0, n_1, n_2, n_3, n_4, n_5, n_6, n_7, n_8, n_9, n_10, n_11, n_12, m_0, m_1, m_2, m_3, m_4, m_5, m_6, m_7, m_8, m_9, m_10, m_11, m_12, m_13, m_14, m_15, m_16, i_23, eq_nn, eq_bb, eq_ll, beq_self_eq_true, isTy, fin_bl, fin_int, fin_tup, fin_lst, fin_nx, Option.bind_some, Option.map_some, List.map_cons, List.map_nil, List.length_cons, List.length_nil, List.replicate, List.getElem?_cons_zero, List.getElem?_cons_succ, List.set_cons_zero, List.set_cons_succ, List.cons_append, List.nil_append, List.append_nil, Nat.sub_self, List.take_length, Bool.false_eq_true, reduceIte, Bool.and_true, Bool.true_and, Bool.not_true, Bool.not_false, Bool.false_and, Bool.and_false, Nat.reduceSub, List.replicate_succ, List.replicate_zero, Nat.succ_sub_succ, decide_true, decide_false, Int.reduceEq, Int.reduceLT, Int.reduceLE, Int.reduceNeg, Int.reduceGT, gt_iff_lt, ge_iff_le, Bool.and_assoc, List.any_cons, List.any_nil, Bool.or_true, Bool.true_or, Bool.or_false, Bool.false_or], ⟨W, rfl⟩, .inl ⟨hdue, _, rfl⟩⟩
    · right
      have hi : i < W.length := (List.getElem?_eq_some_iff.mp hget).1
      have hd : decide ((i : Int) < (W.length : Int)) = true := decide_eq_true (by omega)
      refine ⟨by simp -implicitDefEqProofs only [rd_2, kys_len, hd, r_din, r_din1, r_din2, r_din3, r_pop, r_pop1, r_gt, r_gt1, r_gt2, r_cat, r_cat1, r_cat2, r_cat3, r_sk, r_sk1, r_sk2, r_sk3, r_keys, r_keys1, r_items, r_items1, r_dcm, r_dcm1, r_dcm2, r_dcs, r_dcs1, r_dcs2, r_dcs3, r_dcs4, r_whl, r_dctB, v_rd_ro, r_var, r_glob, r_int, r_bl, r_non, r_str, r_tup, r_tup1, r_lst, r_lst0, r_lst1, r_dct, r_dct1, r_dct2, r_fn, r_bin, r_bin1, r_bin2, r_neg, r_neg1, r_not, r_not1, r_and, r_and1, r_or, r_or1, r_ite, r_ite1, r_kbl, r_cmp, r_cmp1, r_cmp2, r_chain, r_chain1, r_chain2, r_chain3, r_chain4, r_call, r_call1, r_prim, r_prim1, r_primB, r_primB1, r_new, r_sub, r_sub1, r_sub2, r_dsub, r_dsub1, r_dsub2, r_app, r_app1, r_app2, r_get, r_get1, r_get2, r_get3, r_frz, r_frz1, r_es0, r_es, r_es1, r_es2, r_ps0, r_ps, r_ps1, r_ps2, r_ps3, r_o0, r_o, r_o1, r_g0, r_g, r_g1, r_cut, r_cut0, r_cut1, r_cut2, r_comp, r_comp1, r_comp2, r_step, r_step1, r_step2, r_step3, r_walkL0, r_walkL, r_walkL1, r_seq, r_seq1, r_seq2, r_rng1, r_rng1a, r_rng2, r_rng2a, r_rng2b, r_in, r_zip, r_zip1, r_zip2, r_c, r_asg, r_asg1, r_nx, r_set, r_set1, r_set2, r_set3, r_st, r_expr, r_expr1, r_ret, r_ret1, r_if, r_if1, r_pass, r_ss0, r_ss, r_ss1, r_ss2, r_for, r_for1, r_fstep, r_for2, r_walkF0, r_walkF, r_walkF1, r_walkF2, v_rd_int, v_rd_bl, v_rd_str, v_rd_non, v_rd_tup, v_rd_lst, v_rd_dct, v_rR_int, v_rR_bl, v_rR_str, v_rR_non, v_rR_tup, v_rR_lst, v_rR_dct, v_rR_ro, v_rR_box, v_and, v_or, a_0, a_1, a_2, a_3, a_4, p_int, p_inti, p_lenl, p_lent, p_max, p_min, p_abs, p_all3, f_sd, f_w, p_isint, p_isinl, p_isini, p_isinb, p_isins, p_isinn, c_isn, c_isb, c_isi, c_iss, c_ist, c_isl, c_inl, c_int, b_add, b_sub, b_mul, b_mul0, b_mul1, b_w2, b_w3, v_rd_w, v_un_w, c_eqi, c_nei, c_eqs, c_lt, c_le, c_gt, c_ge, s_t, s_l, t_nm, t_tp, t_0, t_1, u_int, u_bl, u_str, u_non, u_tup, u_lst, u_0, u_1, u_s, l_5, l_4, l_3, l_2, l_1, l_0, n_0, n_1, n_2, n_3, n_4, n_5, n_6, n_7, n_8, n_9, n_10, n_11, n_12, m_0, m_1, m_2, m_3, m_4, m_5, m_6, m_7, m_8, m_9, m_10, m_11, m_12, m_13, m_14, m_15, m_16, i_23, eq_nn, eq_bb, eq_ll, beq_self_eq_true, isTy, fin_bl, fin_int, fin_tup, fin_lst, fin_nx, Option.bind_some, Option.map_some, List.map_cons, List.map_nil, List.length_cons, List.length_nil, List.replicate, List.getElem?_cons_zero, List.getElem?_cons_succ, List.set_cons_zero, List.set_cons_succ, List.cons_append, List.nil_append, List.append_nil, Nat.sub_self, List.take_length, Bool.false_eq_true, reduceIte, Bool.and_true, Bool.true_and, Bool.not_true, Bool.not_false, Bool.false_and, Bool.and_false, Nat.reduceSub, List.replicate_succ, List.replicate_zero, Nat.succ_sub_succ, decide_true, decide_false, Int.reduceEq, Int.reduceLT, Int.reduceLE, Int.reduceNeg, Int.reduceGT, gt_iff_lt, ge_iff_le, Bool.and_assoc, List.any_cons, List.any_nil, Bool.or_true, Bool.true_or, Bool.or_false, Bool.false_or], ?_⟩
      have hmem : (c, r) ∈ W := List.mem_of_getElem? hget
      have cc := allC_cd p hp (g.gd.sub _ hmem)
      have fewc := cc.few hp
      have hat := kys_at (kd := crD) hget
      have es := fun st => ev_is_shut fuel (k + 3) c fewc st
      have hsub := dsub_w (vd := rwD) kd_crowd g.gd.nd hmem
      have hi1 : (i : Int) + 1 = ((i + 1 : Nat) : Int) := by omega
      rcases hcase with ⟨hg, hdue⟩ | ⟨hg, n', Q', met', rel', f', e', m'⟩
      · right
        exact ⟨_, _, by simp -implicitDefEqProofs only [f_row_by_2, rd_1, rd_2, hat, es, hg, hsub, r_din, r_din1, r_din2, r_din3, r_pop, r_pop1, r_gt, r_gt1, r_gt2, r_cat, r_cat1, r_cat2, r_cat3, r_sk, r_sk1, r_sk2, r_sk3, r_keys, r_keys1, r_items, r_items1, r_dcm, r_dcm1, r_dcm2, r_dcs, r_dcs1, r_dcs2, r_dcs3, r_dcs4, r_whl, r_dctB, v_rd_ro, r_var, r_glob, r_int, r_bl, r_non, r_str, r_tup, r_tup1, r_lst, r_lst0, r_lst1, r_dct, r_dct1, r_dct2, r_fn, r_bin, r_bin1, r_bin2, r_neg, r_neg1, r_not, r_not1, r_and, r_and1, r_or, r_or1, r_ite, r_ite1, r_kbl, r_cmp, r_cmp1, r_cmp2, r_chain, r_chain1, r_chain2, r_chain3, r_chain4, r_call, r_call1, r_prim, r_prim1, r_primB, r_primB1, r_new, r_sub, r_sub1, r_sub2, r_dsub, r_dsub1, r_dsub2, r_app, r_app1, r_app2, r_get, r_get1, r_get2, r_get3, r_frz, r_frz1, r_es0, r_es, r_es1, r_es2, r_ps0, r_ps, r_ps1, r_ps2, r_ps3, r_o0, r_o, r_o1, r_g0, r_g, r_g1, r_cut, r_cut0, r_cut1, r_cut2, r_comp, r_comp1, r_comp2, r_step, r_step1, r_step2, r_step3, r_walkL0, r_walkL, r_walkL1, r_seq, r_seq1, r_seq2, r_rng1, r_rng1a, r_rng2, r_rng2a, r_rng2b, r_in, r_zip, r_zip1, r_zip2, r_c, r_asg, r_asg1, r_nx, r_set, r_set1, r_set2, r_set3, r_st, r_expr, r_expr1, r_ret, r_ret1, r_if, r_if1, r_pass, r_ss0, r_ss, r_ss1, r_ss2, r_for, r_for1, r_fstep, r_for2, r_walkF0, r_walkF, r_walkF1, r_walkF2, v_rd_int, v_rd_bl, v_rd_str, v_rd_non, v_rd_tup, v_rd_lst, v_rd_dct, v_rR_int, v_rR_bl, v_rR_str, v_rR_non, v_rR_tup, v_rR_lst, v_rR_dct, v_rR_ro, v_rR_box, v_and, v_or, a_0, a_1, a_2, a_3, a_4, p_int, p_inti, p_lenl, p_lent, p_max, p_min, p_abs, p_all3, f_sd, f_w, p_isint, p_isinl, p_isini, p_isinb, p_isins, p_isinn, c_isn, c_isb, c_isi, c_iss, c_ist, c_isl, c_inl, c_int, b_add, b_sub, b_mul, b_mul0, b_mul1, b_w2, b_w3, v_rd_w, v_un_w, c_eqi, c_nei, c_eqs, c_lt, c_le, c_gt, c_ge, s_t, s_l, t_nm, t_tp, t_0, t_1, u_int, u_bl, u_str, u_non, u_tup, u_lst, u_0, u_1, u_s, l_5, l_4, l_3, l_2, l_1, l_0, n_0, n_1, n_2, n_3, n_4, n_5, n_6, n_7, n_8, n_9, n_10, n_11, n_12, m_0, m_1, m_2, m_3, m_4, m_5, m_6, m_7, m_8, m_9, m_10, m_11, m_12, m_13, m_14, m_15, m_16, i_23, eq_nn, eq_bb, eq_ll, beq_self_eq_true, isTy, fin_bl, fin_int, fin_tup, fin_lst, fin_nx, Option.bind_some, Option.map_some, List.map_cons, List.map_nil, List.length_cons, List.length_nil, List.replicate, List.getElem?_cons_zero, List.getElem?_cons_succ, List.set_cons_zero, List.set_cons_succ, List.cons_append, List.nil_append, List.append_nil, Nat.sub_self, List.take_length, Bool.false_eq_true, reduceIte, Bool.and_true, Bool.true_and, Bool.not_true, Bool.not_false, Bool.false_and, Bool.and_false, Nat.reduceSub, List.replicate_succ, List.replicate_zero, Nat.succ_sub_succ, decide_true, decide_false, Int.reduceEq, Int.reduceLT, Int.reduceLE, Int.reduceNeg, Int.reduceGT, gt_iff_lt, ge_iff_le, Bool.and_assoc, List.any_cons, List.any_nil, Bool.or_true, Bool.true_or, Bool.or_false, Bool.false_or], ⟨W, rfl⟩, .inr ⟨r, hdue, rfl⟩⟩
      · left
        cases n with
        | zero => omega
        | succ n =>
          obtain ⟨y6, y7, e2, g'⟩ := row_press fuel k fuel p hp st (some (crD (first p))) (.int ((i + 1 : Nat) : Int)) c r [false, true] W x6 x7 g hmem
          have est : stepW (led p) [false, true] W i = [false, true].foldl (addW (led p) c r) W := by unfold stepW; rw [hget]
          rw [est] at rel'
          simp -implicitDefEqProofs only [List.map_cons (f := D.bl), List.map_nil (f := D.bl)] at e2
          refine ⟨n, _, _, Nat.lt_succ_self n, ?_, _, i + 1, n', Q', met', some (crD c), y6, y7, by omega, g', rel', f', e', m', rfl, rfl⟩
          simp -implicitDefEqProofs only [f_row_by_2, rd_2, hat, es, hg, hi1, e2, r_din, r_din1, r_din2, r_din3, r_pop, r_pop1, r_gt, r_gt1, r_gt2, r_cat, r_cat1, r_cat2, r_cat3, r_sk, r_sk1, r_sk2, r_sk3, r_keys, r_keys1, r_items, r_items1, r_dcm, r_dcm1, r_dcm2, r_dcs, r_dcs1, r_dcs2, r_dcs3, r_dcs4, r_whl, r_dctB, v_rd_ro, r_var, r_glob, r_int, r_bl, r_non, r_str, r_tup, r_tup1, r_lst, r_lst0, r_lst1, r_dct, r_dct1, r_dct2, r_fn, r_bin, r_bin1, r_bin2, r_neg, r_neg1, r_not, r_not1, r_and, r_and1, r_or, r_or1, r_ite, r_ite1, r_kbl, r_cmp, r_cmp1, r_cmp2, r_chain, r_chain1, r_chain2, r_chain3, r_chain4, r_call, r_call1, r_prim, r_prim1, r_primB, r_primB1, r_new, r_sub, r_sub1, r_sub2, r_dsub, r_dsub1, r_dsub2, r_app, r_app1, r_app2, r_get, r_get1, r_get2, r_get3, r_frz, r_frz1, r_es0, r_es, r_es1, r_es2, r_ps0, r_ps, r_ps1, r_ps2, r_ps3, r_o0, r_o, r_o1, r_g0, r_g, r_g1, r_cut, r_cut0, r_cut1, r_cut2, r_comp, r_comp1, r_comp2, r_step, r_step1, r_step2, r_step3, r_walkL0, r_walkL, r_walkL1, r_seq, r_seq1, r_seq2, r_rng1, r_rng1a, r_rng2, r_rng2a, r_rng2b, r_in, r_zip, r_zip1, r_zip2, r_c, r_asg, r_asg1, r_nx, r_set, r_set1, r_set2, r_set3, r_st, r_expr, r_expr1, r_ret, r_ret1, r_if, r_if1, r_pass, r_ss0, r_ss, r_ss1, r_ss2, r_for, r_for1, r_fstep, r_for2, r_walkF0, r_walkF, r_walkF1, r_walkF2, v_rd_int, v_rd_bl, v_rd_str, v_rd_non, v_rd_tup, v_rd_lst, v_rd_dct, v_rR_int, v_rR_bl, v_rR_str, v_rR_non, v_rR_tup, v_rR_lst, v_rR_dct, v_rR_ro, v_rR_box, v_and, v_or, a_0, a_1, a_2, a_3, a_4, p_int, p_inti, p_lenl, p_lent, p_max, p_min, p_abs, p_all3, f_sd, f_w, p_isint, p_isinl, p_isini, p_isinb, p_isins, p_isinn, c_isn, c_isb, c_isi, c_iss, c_ist, c_isl, c_inl, c_int, b_add, b_sub, b_mul, b_mul0, b_mul1, b_w2, b_w3, v_rd_w, v_un_w, c_eqi, c_nei, c_eqs, c_lt, c_le, c_gt, c_ge, s_t, s_l, t_nm, t_tp, t_0, t_1, u_int, u_bl, u_str, u_non, u_tup, u_lst, u_0, u_1, u_s, l_5, l_4, l_3, l_2, l_1, l_0, n_0, n_1, n_2, n_3, n_4, n_5, n_6, n_7, n_8, n_9, n_10, n_11, n_12, m_0, m_1, m_2, m_3, m_4, m_5, m_6, m_7, m_8, m_9, m_10, m_11, m_12, m_13, m_14, m_15, m_16, i_23, eq_nn, eq_bb, eq_ll, beq_self_eq_true, isTy, fin_bl, fin_int, fin_tup, fin_lst, fin_nx, Option.bind_some, Option.map_some, List.map_cons, List.map_nil, List.length_cons, List.length_nil, List.replicate, List.getElem?_cons_zero, List.getElem?_cons_succ, List.set_cons_zero, List.set_cons_succ, List.cons_append, List.nil_append, List.append_nil, Nat.sub_self, List.take_length, Bool.false_eq_true, reduceIte, Bool.and_true, Bool.true_and, Bool.not_true, Bool.not_false, Bool.false_and, Bool.and_false, Nat.reduceSub, List.replicate_succ, List.replicate_zero, Nat.succ_sub_succ, decide_true, decide_false, Int.reduceEq, Int.reduceLT, Int.reduceLE, Int.reduceNeg, Int.reduceGT, gt_iff_lt, ge_iff_le, Bool.and_assoc, List.any_cons, List.any_nil, Bool.or_true, Bool.true_or, Bool.or_false, Bool.false_or])
  obtain ⟨rr, st', ewl, ⟨W, hst⟩, hres⟩ := wl 65537 fuel [some p.d, some (crD (first p)), some (.box st.length), some (.box (st.length + 1)), some (.int 0), none, none, none] (st ++ [.dct true (kys crD [(first p, [])]) (vls rwD [(first p, [])]), .lst (kys crD [(first p, [])])]) (by omega)
    ⟨[(first p, [])], 0, 131080, [(first p, [])], [], none, none, none, rfl, GdC.start p hp, ⟨by simp, by simp -implicitDefEqProofs [firsts], by simp⟩, first_fu p, due_eq p, first_mts p hp, rfl, rfl⟩
  have hm : dmake true [(crD (first p), D.tup [])] ([], []) = some (kys crD [(first p, ([] : List Bool))], vls rwD [(first p, ([] : List Bool))]) := by
    simp -implicitDefEqProofs only [dmake, kd_crowd.fits, if_true]
    rfl
  have hk : [crD (first p)] = kys crD [(first p, ([] : List Bool))] := by rfl
  have hl : (st ++ [B.dct true (kys crD [(first p, ([] : List Bool))]) (vls rwD [(first p, ([] : List Bool))])]).length = st.length + 1 := by simp
  have hz : (kys crD [(first p, ([] : List Bool))]).length ≤ LIM := by rw [kys_len]; show 1 ≤ LIM; decide
  have ht : ∀ xs : List Stand, primD .tuple [.lst (xs.map Stand.d)] = some (crD xs) := fun _ => rfl
  rw [call_eq (fn := f_row_by) rfl rfl]
  simp -implicitDefEqProofs only [f_row_by_2] at ewl
  rw [hst] at ewl
  have sw := sorted_ways p hp
  rcases hres with ⟨hd, ρ, rfl⟩ | ⟨row, hd, rfl⟩
  · simp -implicitDefEqProofs only [f_row_by, f_row_by_x0, f_row_by_x1, f_row_by_x2, f_row_by_x3, ew, rR_ways, sw, ht, hm, hk, hl, hz, ewl, List.append_assoc, tk_2, hd, dueD, fin_non, r_din, r_din1, r_din2, r_din3, r_pop, r_pop1, r_gt, r_gt1, r_gt2, r_cat, r_cat1, r_cat2, r_cat3, r_sk, r_sk1, r_sk2, r_sk3, r_keys, r_keys1, r_items, r_items1, r_dcm, r_dcm1, r_dcm2, r_dcs, r_dcs1, r_dcs2, r_dcs3, r_dcs4, r_whl, r_dctB, v_rd_ro, r_var, r_glob, r_int, r_bl, r_non, r_str, r_tup, r_tup1, r_lst, r_lst0, r_lst1, r_dct, r_dct1, r_dct2, r_fn, r_bin, r_bin1, r_bin2, r_neg, r_neg1, r_not, r_not1, r_and, r_and1, r_or, r_or1, r_ite, r_ite1, r_kbl, r_cmp, r_cmp1, r_cmp2, r_chain, r_chain1, r_chain2, r_chain3, r_chain4, r_call, r_call1, r_prim, r_prim1, r_primB, r_primB1, r_new, r_sub, r_sub1, r_sub2, r_dsub, r_dsub1, r_dsub2, r_app, r_app1, r_app2, r_get, r_get1, r_get2, r_get3, r_frz, r_frz1, r_es0, r_es, r_es1, r_es2, r_ps0, r_ps, r_ps1, r_ps2, r_ps3, r_o0, r_o, r_o1, r_g0, r_g, r_g1, r_cut, r_cut0, r_cut1, r_cut2, r_comp, r_comp1, r_comp2, r_step, r_step1, r_step2, r_step3, r_walkL0, r_walkL, r_walkL1, r_seq, r_seq1, r_seq2, r_rng1, r_rng1a, r_rng2, r_rng2a, r_rng2b, r_in, r_zip, r_zip1, r_zip2, r_c, r_asg, r_asg1, r_nx, r_set, r_set1, r_set2, r_set3, r_st, r_expr, r_expr1, r_ret, r_ret1, r_if, r_if1, r_pass, r_ss0, r_ss, r_ss1, r_ss2, r_for, r_for1, r_fstep, r_for2, r_walkF0, r_walkF, r_walkF1, r_walkF2, v_rd_int, v_rd_bl, v_rd_str, v_rd_non, v_rd_tup, v_rd_lst, v_rd_dct, v_rR_int, v_rR_bl, v_rR_str, v_rR_non, v_rR_tup, v_rR_lst, v_rR_dct, v_rR_ro, v_rR_box, v_and, v_or, a_0, a_1, a_2, a_3, a_4, p_int, p_inti, p_lenl, p_lent, p_max, p_min, p_abs, p_all3, f_sd, f_w, p_isint, p_isinl, p_isini, p_isinb, p_isins, p_isinn, c_isn, c_isb, c_isi, c_iss, c_ist, c_isl, c_inl, c_int, b_add, b_sub, b_mul, b_mul0, b_mul1, b_w2, b_w3, v_rd_w, v_un_w, c_eqi, c_nei, c_eqs, c_lt, c_le, c_gt, c_ge, s_t, s_l, t_nm, t_tp, t_0, t_1, u_int, u_bl, u_str, u_non, u_tup, u_lst, u_0, u_1, u_s, l_5, l_4, l_3, l_2, l_1, l_0, n_0, n_1, n_2, n_3, n_4, n_5, n_6, n_7, n_8, n_9, n_10, n_11, n_12, m_0, m_1, m_2, m_3, m_4, m_5, m_6, m_7, m_8, m_9, m_10, m_11, m_12, m_13, m_14, m_15, m_16, i_23, eq_nn, eq_bb, eq_ll, beq_self_eq_true, isTy, fin_bl, fin_int, fin_tup, fin_lst, fin_nx, Option.bind_some, Option.map_some, List.map_cons, List.map_nil, List.length_cons, List.length_nil, List.replicate, List.getElem?_cons_zero, List.getElem?_cons_succ, List.set_cons_zero, List.set_cons_succ, List.cons_append, List.nil_append, List.append_nil, Nat.sub_self, List.take_length, Bool.false_eq_true, reduceIte, Bool.and_true, Bool.true_and, Bool.not_true, Bool.not_false, Bool.false_and, Bool.and_false, Nat.reduceSub, List.replicate_succ, List.replicate_zero, Nat.succ_sub_succ, decide_true, decide_false, Int.reduceEq, Int.reduceLT, Int.reduceLE, Int.reduceNeg, Int.reduceGT, gt_iff_lt, ge_iff_le, Bool.and_assoc, List.any_cons, List.any_nil, Bool.or_true, Bool.true_or, Bool.or_false, Bool.false_or]
  · simp -implicitDefEqProofs only [f_row_by, f_row_by_x0, f_row_by_x1, f_row_by_x2, f_row_by_x3, ew, rR_ways, sw, ht, hm, hk, hl, hz, ewl, List.append_assoc, tk_2, hd, dueD, rwD, u_row, r_din, r_din1, r_din2, r_din3, r_pop, r_pop1, r_gt, r_gt1, r_gt2, r_cat, r_cat1, r_cat2, r_cat3, r_sk, r_sk1, r_sk2, r_sk3, r_keys, r_keys1, r_items, r_items1, r_dcm, r_dcm1, r_dcm2, r_dcs, r_dcs1, r_dcs2, r_dcs3, r_dcs4, r_whl, r_dctB, v_rd_ro, r_var, r_glob, r_int, r_bl, r_non, r_str, r_tup, r_tup1, r_lst, r_lst0, r_lst1, r_dct, r_dct1, r_dct2, r_fn, r_bin, r_bin1, r_bin2, r_neg, r_neg1, r_not, r_not1, r_and, r_and1, r_or, r_or1, r_ite, r_ite1, r_kbl, r_cmp, r_cmp1, r_cmp2, r_chain, r_chain1, r_chain2, r_chain3, r_chain4, r_call, r_call1, r_prim, r_prim1, r_primB, r_primB1, r_new, r_sub, r_sub1, r_sub2, r_dsub, r_dsub1, r_dsub2, r_app, r_app1, r_app2, r_get, r_get1, r_get2, r_get3, r_frz, r_frz1, r_es0, r_es, r_es1, r_es2, r_ps0, r_ps, r_ps1, r_ps2, r_ps3, r_o0, r_o, r_o1, r_g0, r_g, r_g1, r_cut, r_cut0, r_cut1, r_cut2, r_comp, r_comp1, r_comp2, r_step, r_step1, r_step2, r_step3, r_walkL0, r_walkL, r_walkL1, r_seq, r_seq1, r_seq2, r_rng1, r_rng1a, r_rng2, r_rng2a, r_rng2b, r_in, r_zip, r_zip1, r_zip2, r_c, r_asg, r_asg1, r_nx, r_set, r_set1, r_set2, r_set3, r_st, r_expr, r_expr1, r_ret, r_ret1, r_if, r_if1, r_pass, r_ss0, r_ss, r_ss1, r_ss2, r_for, r_for1, r_fstep, r_for2, r_walkF0, r_walkF, r_walkF1, r_walkF2, v_rd_int, v_rd_bl, v_rd_str, v_rd_non, v_rd_tup, v_rd_lst, v_rd_dct, v_rR_int, v_rR_bl, v_rR_str, v_rR_non, v_rR_tup, v_rR_lst, v_rR_dct, v_rR_ro, v_rR_box, v_and, v_or, a_0, a_1, a_2, a_3, a_4, p_int, p_inti, p_lenl, p_lent, p_max, p_min, p_abs, p_all3, f_sd, f_w, p_isint, p_isinl, p_isini, p_isinb, p_isins, p_isinn, c_isn, c_isb, c_isi, c_iss, c_ist, c_isl, c_inl, c_int, b_add, b_sub, b_mul, b_mul0, b_mul1, b_w2, b_w3, v_rd_w, v_un_w, c_eqi, c_nei, c_eqs, c_lt, c_le, c_gt, c_ge, s_t, s_l, t_nm, t_tp, t_0, t_1, u_int, u_bl, u_str, u_non, u_tup, u_lst, u_0, u_1, u_s, l_5, l_4, l_3, l_2, l_1, l_0, n_0, n_1, n_2, n_3, n_4, n_5, n_6, n_7, n_8, n_9, n_10, n_11, n_12, m_0, m_1, m_2, m_3, m_4, m_5, m_6, m_7, m_8, m_9, m_10, m_11, m_12, m_13, m_14, m_15, m_16, i_23, eq_nn, eq_bb, eq_ll, beq_self_eq_true, isTy, fin_bl, fin_int, fin_tup, fin_lst, fin_nx, Option.bind_some, Option.map_some, List.map_cons, List.map_nil, List.length_cons, List.length_nil, List.replicate, List.getElem?_cons_zero, List.getElem?_cons_succ, List.set_cons_zero, List.set_cons_succ, List.cons_append, List.nil_append, List.append_nil, Nat.sub_self, List.take_length, Bool.false_eq_true, reduceIte, Bool.and_true, Bool.true_and, Bool.not_true, Bool.not_false, Bool.false_and, Bool.and_false, Nat.reduceSub, List.replicate_succ, List.replicate_zero, Nat.succ_sub_succ, decide_true, decide_false, Int.reduceEq, Int.reduceLT, Int.reduceLE, Int.reduceNeg, Int.reduceGT, gt_iff_lt, ge_iff_le, Bool.and_assoc, List.any_cons, List.any_nil, Bool.or_true, Bool.true_or, Bool.or_false, Bool.false_or]
theorem ev_shut_row (fuel k : Nat) (hf : 66000 ≤ fuel) (p : Plan) (hp : p.Ok) (st : Store) : evCall T fuel (k + 6) 15 [p.d] st = some (dueD (dueRow p), st) := by
  have e := fun st => ev_row_by fuel k hf p hp st
  rw [call_eq (fn := f_shut_row) rfl rfl]
  cases hd : dueRow p with
  | none =>
    rw [hd] at e
    simp -implicitDefEqProofs only [dueD] at e ⊢
    simp -implicitDefEqProofs only [f_shut_row, f_shut_row_x0, f_shut_row_x1, ev_look_plan _ _ _ hp, e, fin_non, r_din, r_din1, r_din2, r_din3, r_pop, r_pop1, r_gt, r_gt1, r_gt2, r_cat, r_cat1, r_cat2, r_cat3, r_sk, r_sk1, r_sk2, r_sk3, r_keys, r_keys1, r_items, r_items1, r_dcm, r_dcm1, r_dcm2, r_dcs, r_dcs1, r_dcs2, r_dcs3, r_dcs4, r_whl, r_dctB, v_rd_ro, r_var, r_glob, r_int, r_bl, r_non, r_str, r_tup, r_tup1, r_lst, r_lst0, r_lst1, r_dct, r_dct1, r_dct2, r_fn, r_bin, r_bin1, r_bin2, r_neg, r_neg1, r_not, r_not1, r_and, r_and1, r_or, r_or1, r_ite, r_ite1, r_kbl, r_cmp, r_cmp1, r_cmp2, r_chain, r_chain1, r_chain2, r_chain3, r_chain4, r_call, r_call1, r_prim, r_prim1, r_primB, r_primB1, r_new, r_sub, r_sub1, r_sub2, r_dsub, r_dsub1, r_dsub2, r_app, r_app1, r_app2, r_get, r_get1, r_get2, r_get3, r_frz, r_frz1, r_es0, r_es, r_es1, r_es2, r_ps0, r_ps, r_ps1, r_ps2, r_ps3, r_o0, r_o, r_o1, r_g0, r_g, r_g1, r_cut, r_cut0, r_cut1, r_cut2, r_comp, r_comp1, r_comp2, r_step, r_step1, r_step2, r_step3, r_walkL0, r_walkL, r_walkL1, r_seq, r_seq1, r_seq2, r_rng1, r_rng1a, r_rng2, r_rng2a, r_rng2b, r_in, r_zip, r_zip1, r_zip2, r_c, r_asg, r_asg1, r_nx, r_set, r_set1, r_set2, r_set3, r_st, r_expr, r_expr1, r_ret, r_ret1, r_if, r_if1, r_pass, r_ss0, r_ss, r_ss1, r_ss2, r_for, r_for1, r_fstep, r_for2, r_walkF0, r_walkF, r_walkF1, r_walkF2, v_rd_int, v_rd_bl, v_rd_str, v_rd_non, v_rd_tup, v_rd_lst, v_rd_dct, v_rR_int, v_rR_bl, v_rR_str, v_rR_non, v_rR_tup, v_rR_lst, v_rR_dct, v_rR_ro, v_rR_box, v_and, v_or, a_0, a_1, a_2, a_3, a_4, p_int, p_inti, p_lenl, p_lent, p_max, p_min, p_abs, p_all3, f_sd, f_w, p_isint, p_isinl, p_isini, p_isinb, p_isins, p_isinn, c_isn, c_isb, c_isi, c_iss, c_ist, c_isl, c_inl, c_int, b_add, b_sub, b_mul, b_mul0, b_mul1, b_w2, b_w3, v_rd_w, v_un_w, c_eqi, c_nei, c_eqs, c_lt, c_le, c_gt, c_ge, s_t, s_l, t_nm, t_tp, t_0, t_1, u_int, u_bl, u_str, u_non, u_tup, u_lst, u_0, u_1, u_s, l_5, l_4, l_3, l_2, l_1, l_0, n_0, n_1, n_2, n_3, n_4, n_5, n_6, n_7, n_8, n_9, n_10, n_11, n_12, m_0, m_1, m_2, m_3, m_4, m_5, m_6, m_7, m_8, m_9, m_10, m_11, m_12, m_13, m_14, m_15, m_16, i_23, eq_nn, eq_bb, eq_ll, beq_self_eq_true, isTy, fin_bl, fin_int, fin_tup, fin_lst, fin_nx, Option.bind_some, Option.map_some, List.map_cons, List.map_nil, List.length_cons, List.length_nil, List.replicate, List.getElem?_cons_zero, List.getElem?_cons_succ, List.set_cons_zero, List.set_cons_succ, List.cons_append, List.nil_append, List.append_nil, Nat.sub_self, List.take_length, Bool.false_eq_true, reduceIte, Bool.and_true, Bool.true_and, Bool.not_true, Bool.not_false, Bool.false_and, Bool.and_false, Nat.reduceSub, List.replicate_succ, List.replicate_zero, Nat.succ_sub_succ, decide_true, decide_false, Int.reduceEq, Int.reduceLT, Int.reduceLE, Int.reduceNeg, Int.reduceGT, gt_iff_lt, ge_iff_le, Bool.and_assoc, List.any_cons, List.any_nil, Bool.or_true, Bool.true_or, Bool.or_false, Bool.false_or]
  | some r =>
    rw [hd] at e
    simp -implicitDefEqProofs only [dueD, rwD] at e ⊢
    simp -implicitDefEqProofs only [f_shut_row, f_shut_row_x0, f_shut_row_x1, ev_look_plan _ _ _ hp, e, u_row, r_din, r_din1, r_din2, r_din3, r_pop, r_pop1, r_gt, r_gt1, r_gt2, r_cat, r_cat1, r_cat2, r_cat3, r_sk, r_sk1, r_sk2, r_sk3, r_keys, r_keys1, r_items, r_items1, r_dcm, r_dcm1, r_dcm2, r_dcs, r_dcs1, r_dcs2, r_dcs3, r_dcs4, r_whl, r_dctB, v_rd_ro, r_var, r_glob, r_int, r_bl, r_non, r_str, r_tup, r_tup1, r_lst, r_lst0, r_lst1, r_dct, r_dct1, r_dct2, r_fn, r_bin, r_bin1, r_bin2, r_neg, r_neg1, r_not, r_not1, r_and, r_and1, r_or, r_or1, r_ite, r_ite1, r_kbl, r_cmp, r_cmp1, r_cmp2, r_chain, r_chain1, r_chain2, r_chain3, r_chain4, r_call, r_call1, r_prim, r_prim1, r_primB, r_primB1, r_new, r_sub, r_sub1, r_sub2, r_dsub, r_dsub1, r_dsub2, r_app, r_app1, r_app2, r_get, r_get1, r_get2, r_get3, r_frz, r_frz1, r_es0, r_es, r_es1, r_es2, r_ps0, r_ps, r_ps1, r_ps2, r_ps3, r_o0, r_o, r_o1, r_g0, r_g, r_g1, r_cut, r_cut0, r_cut1, r_cut2, r_comp, r_comp1, r_comp2, r_step, r_step1, r_step2, r_step3, r_walkL0, r_walkL, r_walkL1, r_seq, r_seq1, r_seq2, r_rng1, r_rng1a, r_rng2, r_rng2a, r_rng2b, r_in, r_zip, r_zip1, r_zip2, r_c, r_asg, r_asg1, r_nx, r_set, r_set1, r_set2, r_set3, r_st, r_expr, r_expr1, r_ret, r_ret1, r_if, r_if1, r_pass, r_ss0, r_ss, r_ss1, r_ss2, r_for, r_for1, r_fstep, r_for2, r_walkF0, r_walkF, r_walkF1, r_walkF2, v_rd_int, v_rd_bl, v_rd_str, v_rd_non, v_rd_tup, v_rd_lst, v_rd_dct, v_rR_int, v_rR_bl, v_rR_str, v_rR_non, v_rR_tup, v_rR_lst, v_rR_dct, v_rR_ro, v_rR_box, v_and, v_or, a_0, a_1, a_2, a_3, a_4, p_int, p_inti, p_lenl, p_lent, p_max, p_min, p_abs, p_all3, f_sd, f_w, p_isint, p_isinl, p_isini, p_isinb, p_isins, p_isinn, c_isn, c_isb, c_isi, c_iss, c_ist, c_isl, c_inl, c_int, b_add, b_sub, b_mul, b_mul0, b_mul1, b_w2, b_w3, v_rd_w, v_un_w, c_eqi, c_nei, c_eqs, c_lt, c_le, c_gt, c_ge, s_t, s_l, t_nm, t_tp, t_0, t_1, u_int, u_bl, u_str, u_non, u_tup, u_lst, u_0, u_1, u_s, l_5, l_4, l_3, l_2, l_1, l_0, n_0, n_1, n_2, n_3, n_4, n_5, n_6, n_7, n_8, n_9, n_10, n_11, n_12, m_0, m_1, m_2, m_3, m_4, m_5, m_6, m_7, m_8, m_9, m_10, m_11, m_12, m_13, m_14, m_15, m_16, i_23, eq_nn, eq_bb, eq_ll, beq_self_eq_true, isTy, fin_bl, fin_int, fin_tup, fin_lst, fin_nx, Option.bind_some, Option.map_some, List.map_cons, List.map_nil, List.length_cons, List.length_nil, List.replicate, List.getElem?_cons_zero, List.getElem?_cons_succ, List.set_cons_zero, List.set_cons_succ, List.cons_append, List.nil_append, List.append_nil, Nat.sub_self, List.take_length, Bool.false_eq_true, reduceIte, Bool.and_true, Bool.true_and, Bool.not_true, Bool.not_false, Bool.false_and, Bool.and_false, Nat.reduceSub, List.replicate_succ, List.replicate_zero, Nat.succ_sub_succ, decide_true, decide_false, Int.reduceEq, Int.reduceLT, Int.reduceLE, Int.reduceNeg, Int.reduceGT, gt_iff_lt, ge_iff_le, Bool.and_assoc, List.any_cons, List.any_nil, Bool.or_true, Bool.true_or, Bool.or_false, Bool.false_or]
theorem lled_walk (fuel k fu b : Nat) (p : Plan) (hp : p.Ok) (pr : Bool) (x1 : Option D) (st : Store) : ∀ (l acc : List Stand) (x3 : Option D), (∀ s ∈ l, Fits p s) → acc.length + l.length ≤ 100 →
    walkL (cStep ⟨evCall T fuel (k + 2), b, fu⟩ [some p.d, x1, some (.bl pr), x3] [3] (.sub (.call 24 [.var 0, .var 3, .tup [.var 2, .bl false, .bl false]]) (.int 0)) (.name 3) none) (l.map Stand.d) (acc.map Stand.d) st = some ((acc ++ l.map fun s => nxS p s ⟨pr, false, false⟩).map Stand.d, st)
  | [], acc, x3, hs, h => by simp -implicitDefEqProofs [walkL]
  | s :: l, acc, x3, hs, h => by
    have e1 : ∀ st, evCall T fuel (k + 2) 24 [p.d, s.d, .tup [.bl pr, .bl false, .bl false]] st = some (.tup [(nxS p s ⟨pr, false, false⟩).d, words (passed p s ⟨pr, false, false⟩).2], st) := fun st => by
      have e := ev_tick fuel k p s ⟨pr, false, false⟩ st
      rw [tick_eq p s _ hp (hs s List.mem_cons_self)] at e
      exact e
    have hl : (acc.map Stand.d).length < LIM := by
      simp -implicitDefEqProofs only [List.length_cons, List.length_map] at h ⊢
      unfold LIM; omega
    have h1 := lled_walk fuel k fu b p hp pr x1 st l (acc ++ [nxS p s ⟨pr, false, false⟩]) x3 (fun s hs' => hs s (List.mem_cons_of_mem _ hs')) (by simp -implicitDefEqProofs only [List.length_cons, List.length_append, List.length_nil] at h ⊢; omega)
    have hm : (acc ++ [nxS p s ⟨pr, false, false⟩]).map Stand.d = acc.map Stand.d ++ [(nxS p s ⟨pr, false, false⟩).d] := by simp
    rw [hm] at h1
    simp -implicitDefEqProofs only [List.map_cons (f := Stand.d), wipeE, e1, hl, h1, List.append_assoc, List.map_cons (f := fun s => nxS p s ⟨pr, false, false⟩), r_din, r_din1, r_din2, r_din3, r_pop, r_pop1, r_gt, r_gt1, r_gt2, r_cat, r_cat1, r_cat2, r_cat3, r_sk, r_sk1, r_sk2, r_sk3, r_keys, r_keys1, r_items, r_items1, r_dcm, r_dcm1, r_dcm2, r_dcs, r_dcs1, r_dcs2, r_dcs3, r_dcs4, r_whl, r_dctB, v_rd_ro, r_var, r_glob, r_int, r_bl, r_non, r_str, r_tup, r_tup1, r_lst, r_lst0, r_lst1, r_dct, r_dct1, r_dct2, r_fn, r_bin, r_bin1, r_bin2, r_neg, r_neg1, r_not, r_not1, r_and, r_and1, r_or, r_or1, r_ite, r_ite1, r_kbl, r_cmp, r_cmp1, r_cmp2, r_chain, r_chain1, r_chain2, r_chain3, r_chain4, r_call, r_call1, r_prim, r_prim1, r_primB, r_primB1, r_new, r_sub, r_sub1, r_sub2, r_dsub, r_dsub1, r_dsub2, r_app, r_app1, r_app2, r_get, r_get1, r_get2, r_get3, r_frz, r_frz1, r_es0, r_es, r_es1, r_es2, r_ps0, r_ps, r_ps1, r_ps2, r_ps3, r_o0, r_o, r_o1, r_g0, r_g, r_g1, r_cut, r_cut0, r_cut1, r_cut2, r_comp, r_comp1, r_comp2, r_step, r_step1, r_step2, r_step3, r_walkL0, r_walkL, r_walkL1, r_seq, r_seq1, r_seq2, r_rng1, r_rng1a, r_rng2, r_rng2a, r_rng2b, r_in, r_zip, r_zip1, r_zip2, r_c, r_asg, r_asg1, r_nx, r_set, r_set1, r_set2, r_set3, r_st, r_expr, r_expr1, r_ret, r_ret1, r_if, r_if1, r_pass, r_ss0, r_ss, r_ss1, r_ss2, r_for, r_for1, r_fstep, r_for2, r_walkF0, r_walkF, r_walkF1, r_walkF2, v_rd_int, v_rd_bl, v_rd_str, v_rd_non, v_rd_tup, v_rd_lst, v_rd_dct, v_rR_int, v_rR_bl, v_rR_str, v_rR_non, v_rR_tup, v_rR_lst, v_rR_dct, v_rR_ro, v_rR_box, v_and, v_or, a_0, a_1, a_2, a_3, a_4, p_int, p_inti, p_lenl, p_lent, p_max, p_min, p_abs, p_all3, f_sd, f_w, p_isint, p_isinl, p_isini, p_isinb, p_isins, p_isinn, c_isn, c_isb, c_isi, c_iss, c_ist, c_isl, c_inl, c_int, b_add, b_sub, b_mul, b_mul0, b_mul1, b_w2, b_w3, v_rd_w, v_un_w, c_eqi, c_nei, c_eqs, c_lt, c_le, c_gt, c_ge, s_t, s_l, t_nm, t_tp, t_0, t_1, u_int, u_bl, u_str, u_non, u_tup, u_lst, u_0, u_1, u_s, l_5, l_4, l_3, l_2, l_1, l_0, n_0, n_1, n_2, n_3, n_4, n_5, n_6, n_7, n_8, n_9, n_10, n_11, n_12, m_0, m_1, m_2, m_3, m_4, m_5, m_6, m_7, m_8, m_9, m_10, m_11, m_12, m_13, m_14, m_15, m_16, i_23, eq_nn, eq_bb, eq_ll, beq_self_eq_true, isTy, fin_bl, fin_int, fin_tup, fin_lst, fin_nx, Option.bind_some, Option.map_some, List.map_cons, List.map_nil, List.length_cons, List.length_nil, List.replicate, List.getElem?_cons_zero, List.getElem?_cons_succ, List.set_cons_zero, List.set_cons_succ, List.cons_append, List.nil_append, List.append_nil, Nat.sub_self, List.take_length, Bool.false_eq_true, reduceIte, Bool.and_true, Bool.true_and, Bool.not_true, Bool.not_false, Bool.false_and, Bool.and_false, Nat.reduceSub, List.replicate_succ, List.replicate_zero, Nat.succ_sub_succ, decide_true, decide_false, Int.reduceEq, Int.reduceLT, Int.reduceLE, Int.reduceNeg, Int.reduceGT, gt_iff_lt, ge_iff_le, Bool.and_assoc, List.any_cons, List.any_nil, Bool.or_true, Bool.true_or, Bool.or_false, Bool.false_or]
theorem ev_law_led (fuel k : Nat) (p : Plan) (hp : p.Ok) (l : List Stand) (c : Cd p l) (pr : Bool) (st : Store) : evCall T fuel (k + 3) 28 [p.d, crD l, .bl pr] st = some (crD (led p l pr), st) := by
  have few := c.few hp
  have w := lled_walk fuel k fuel st.length p hp pr (some (crD l)) st l [] none c.fits (by simp; omega)
  have hs := led_sort p hp l c pr
  have ht : ∀ xs : List D, primD .tuple [.lst xs] = some (.tup xs) := fun _ => rfl
  rw [call_eq (fn := f_law_led) rfl rfl]
  simp -implicitDefEqProofs only [List.nil_append, List.map_nil] at w
  simp -implicitDefEqProofs only [crD] at w ⊢
  simp -implicitDefEqProofs only [f_law_led, f_law_led_x0, w, hs, ht, u_stands, r_din, r_din1, r_din2, r_din3, r_pop, r_pop1, r_gt, r_gt1, r_gt2, r_cat, r_cat1, r_cat2, r_cat3, r_sk, r_sk1, r_sk2, r_sk3, r_keys, r_keys1, r_items, r_items1, r_dcm, r_dcm1, r_dcm2, r_dcs, r_dcs1, r_dcs2, r_dcs3, r_dcs4, r_whl, r_dctB, v_rd_ro, r_var, r_glob, r_int, r_bl, r_non, r_str, r_tup, r_tup1, r_lst, r_lst0, r_lst1, r_dct, r_dct1, r_dct2, r_fn, r_bin, r_bin1, r_bin2, r_neg, r_neg1, r_not, r_not1, r_and, r_and1, r_or, r_or1, r_ite, r_ite1, r_kbl, r_cmp, r_cmp1, r_cmp2, r_chain, r_chain1, r_chain2, r_chain3, r_chain4, r_call, r_call1, r_prim, r_prim1, r_primB, r_primB1, r_new, r_sub, r_sub1, r_sub2, r_dsub, r_dsub1, r_dsub2, r_app, r_app1, r_app2, r_get, r_get1, r_get2, r_get3, r_frz, r_frz1, r_es0, r_es, r_es1, r_es2, r_ps0, r_ps, r_ps1, r_ps2, r_ps3, r_o0, r_o, r_o1, r_g0, r_g, r_g1, r_cut, r_cut0, r_cut1, r_cut2, r_comp, r_comp1, r_comp2, r_step, r_step1, r_step2, r_step3, r_walkL0, r_walkL, r_walkL1, r_seq, r_seq1, r_seq2, r_rng1, r_rng1a, r_rng2, r_rng2a, r_rng2b, r_in, r_zip, r_zip1, r_zip2, r_c, r_asg, r_asg1, r_nx, r_set, r_set1, r_set2, r_set3, r_st, r_expr, r_expr1, r_ret, r_ret1, r_if, r_if1, r_pass, r_ss0, r_ss, r_ss1, r_ss2, r_for, r_for1, r_fstep, r_for2, r_walkF0, r_walkF, r_walkF1, r_walkF2, v_rd_int, v_rd_bl, v_rd_str, v_rd_non, v_rd_tup, v_rd_lst, v_rd_dct, v_rR_int, v_rR_bl, v_rR_str, v_rR_non, v_rR_tup, v_rR_lst, v_rR_dct, v_rR_ro, v_rR_box, v_and, v_or, a_0, a_1, a_2, a_3, a_4, p_int, p_inti, p_lenl, p_lent, p_max, p_min, p_abs, p_all3, f_sd, f_w, p_isint, p_isinl, p_isini, p_isinb, p_isins, p_isinn, c_isn, c_isb, c_isi, c_iss, c_ist, c_isl, c_inl, c_int, b_add, b_sub, b_mul, b_mul0, b_mul1, b_w2, b_w3, v_rd_w, v_un_w, c_eqi, c_nei, c_eqs, c_lt, c_le, c_gt, c_ge, s_t, s_l, t_nm, t_tp, t_0, t_1, u_int, u_bl, u_str, u_non, u_tup, u_lst, u_0, u_1, u_s, l_5, l_4, l_3, l_2, l_1, l_0, n_0, n_1, n_2, n_3, n_4, n_5, n_6, n_7, n_8, n_9, n_10, n_11, n_12, m_0, m_1, m_2, m_3, m_4, m_5, m_6, m_7, m_8, m_9, m_10, m_11, m_12, m_13, m_14, m_15, m_16, i_23, eq_nn, eq_bb, eq_ll, beq_self_eq_true, isTy, fin_bl, fin_int, fin_tup, fin_lst, fin_nx, Option.bind_some, Option.map_some, List.map_cons, List.map_nil, List.length_cons, List.length_nil, List.replicate, List.getElem?_cons_zero, List.getElem?_cons_succ, List.set_cons_zero, List.set_cons_succ, List.cons_append, List.nil_append, List.append_nil, Nat.sub_self, List.take_length, Bool.false_eq_true, reduceIte, Bool.and_true, Bool.true_and, Bool.not_true, Bool.not_false, Bool.false_and, Bool.and_false, Nat.reduceSub, List.replicate_succ, List.replicate_zero, Nat.succ_sub_succ, decide_true, decide_false, Int.reduceEq, Int.reduceLT, Int.reduceLE, Int.reduceNeg, Int.reduceGT, gt_iff_lt, ge_iff_le, Bool.and_assoc, List.any_cons, List.any_nil, Bool.or_true, Bool.true_or, Bool.or_false, Bool.false_or]
theorem lshut_walk (c : Ev.Ctx) (st : Store) (x0 : Option D) : ∀ (l acc : List Stand) (x1 : Option D), acc.length + l.length ≤ 100 →
    walkL (cStep c [x0, x1] [1] (.var 1) (.name 1) (some (.or (.cmp .ne (.sub (.var 1) (.int 0)) (.int 0)) (.cmp .ne (.sub (.var 1) (.int 1)) (.int 0))))) (l.map Stand.d) (acc.map Stand.d) st = some ((acc ++ l.filter fun s => !decide (s.h = 0) || !decide (s.m = 0)).map Stand.d, st)
  | [], acc, x1, h => by simp -implicitDefEqProofs [walkL]
  | s :: l, acc, x1, h => by
    have hl : (acc.map Stand.d).length < LIM := by
      simp -implicitDefEqProofs only [List.length_cons, List.length_map] at h ⊢
      unfold LIM; omega
    have h0 := lshut_walk c st x0 l acc x1 (by simp -implicitDefEqProofs only [List.length_cons] at h; omega)
    have h1 := lshut_walk c st x0 l (acc ++ [s]) x1 (by simp -implicitDefEqProofs only [List.length_cons, List.length_append, List.length_nil] at h ⊢; omega)
    have hm : (acc ++ [s]).map Stand.d = acc.map Stand.d ++ [s.d] := by simp
    have hs : ∀ (st : Store), rdR st s.d = .tup [.int s.h, .int s.m, .int s.l, .int s.t] := fun _ => rfl
    rw [hm] at h1
    rw [List.filter_cons]
    cases hd : (!decide (s.h = 0) || !decide (s.m = 0))
    · simp -implicitDefEqProofs only [List.map_cons (f := Stand.d), wipeE, hs, hd, h0, r_din, r_din1, r_din2, r_din3, r_pop, r_pop1, r_gt, r_gt1, r_gt2, r_cat, r_cat1, r_cat2, r_cat3, r_sk, r_sk1, r_sk2, r_sk3, r_keys, r_keys1, r_items, r_items1, r_dcm, r_dcm1, r_dcm2, r_dcs, r_dcs1, r_dcs2, r_dcs3, r_dcs4, r_whl, r_dctB, v_rd_ro, r_var, r_glob, r_int, r_bl, r_non, r_str, r_tup, r_tup1, r_lst, r_lst0, r_lst1, r_dct, r_dct1, r_dct2, r_fn, r_bin, r_bin1, r_bin2, r_neg, r_neg1, r_not, r_not1, r_and, r_and1, r_or, r_or1, r_ite, r_ite1, r_kbl, r_cmp, r_cmp1, r_cmp2, r_chain, r_chain1, r_chain2, r_chain3, r_chain4, r_call, r_call1, r_prim, r_prim1, r_primB, r_primB1, r_new, r_sub, r_sub1, r_sub2, r_dsub, r_dsub1, r_dsub2, r_app, r_app1, r_app2, r_get, r_get1, r_get2, r_get3, r_frz, r_frz1, r_es0, r_es, r_es1, r_es2, r_ps0, r_ps, r_ps1, r_ps2, r_ps3, r_o0, r_o, r_o1, r_g0, r_g, r_g1, r_cut, r_cut0, r_cut1, r_cut2, r_comp, r_comp1, r_comp2, r_step, r_step1, r_step2, r_step3, r_walkL0, r_walkL, r_walkL1, r_seq, r_seq1, r_seq2, r_rng1, r_rng1a, r_rng2, r_rng2a, r_rng2b, r_in, r_zip, r_zip1, r_zip2, r_c, r_asg, r_asg1, r_nx, r_set, r_set1, r_set2, r_set3, r_st, r_expr, r_expr1, r_ret, r_ret1, r_if, r_if1, r_pass, r_ss0, r_ss, r_ss1, r_ss2, r_for, r_for1, r_fstep, r_for2, r_walkF0, r_walkF, r_walkF1, r_walkF2, v_rd_int, v_rd_bl, v_rd_str, v_rd_non, v_rd_tup, v_rd_lst, v_rd_dct, v_rR_int, v_rR_bl, v_rR_str, v_rR_non, v_rR_tup, v_rR_lst, v_rR_dct, v_rR_ro, v_rR_box, v_and, v_or, a_0, a_1, a_2, a_3, a_4, p_int, p_inti, p_lenl, p_lent, p_max, p_min, p_abs, p_all3, f_sd, f_w, p_isint, p_isinl, p_isini, p_isinb, p_isins, p_isinn, c_isn, c_isb, c_isi, c_iss, c_ist, c_isl, c_inl, c_int, b_add, b_sub, b_mul, b_mul0, b_mul1, b_w2, b_w3, v_rd_w, v_un_w, c_eqi, c_nei, c_eqs, c_lt, c_le, c_gt, c_ge, s_t, s_l, t_nm, t_tp, t_0, t_1, u_int, u_bl, u_str, u_non, u_tup, u_lst, u_0, u_1, u_s, l_5, l_4, l_3, l_2, l_1, l_0, n_0, n_1, n_2, n_3, n_4, n_5, n_6, n_7, n_8, n_9, n_10, n_11, n_12, m_0, m_1, m_2, m_3, m_4, m_5, m_6, m_7, m_8, m_9, m_10, m_11, m_12, m_13, m_14, m_15, m_16, i_23, eq_nn, eq_bb, eq_ll, beq_self_eq_true, isTy, fin_bl, fin_int, fin_tup, fin_lst, fin_nx, Option.bind_some, Option.map_some, List.map_cons, List.map_nil, List.length_cons, List.length_nil, List.replicate, List.getElem?_cons_zero, List.getElem?_cons_succ, List.set_cons_zero, List.set_cons_succ, List.cons_append, List.nil_append, List.append_nil, Nat.sub_self, List.take_length, Bool.false_eq_true, reduceIte, Bool.and_true, Bool.true_and, Bool.not_true, Bool.not_false, Bool.false_and, Bool.and_false, Nat.reduceSub, List.replicate_succ, List.replicate_zero, Nat.succ_sub_succ, decide_true, decide_false, Int.reduceEq, Int.reduceLT, Int.reduceLE, Int.reduceNeg, Int.reduceGT, gt_iff_lt, ge_iff_le, Bool.and_assoc, List.any_cons, List.any_nil, Bool.or_true, Bool.true_or, Bool.or_false, Bool.false_or]
    · simp -implicitDefEqProofs only [List.map_cons (f := Stand.d), wipeE, hs, hd, hl, h1, List.append_assoc, r_din, r_din1, r_din2, r_din3, r_pop, r_pop1, r_gt, r_gt1, r_gt2, r_cat, r_cat1, r_cat2, r_cat3, r_sk, r_sk1, r_sk2, r_sk3, r_keys, r_keys1, r_items, r_items1, r_dcm, r_dcm1, r_dcm2, r_dcs, r_dcs1, r_dcs2, r_dcs3, r_dcs4, r_whl, r_dctB, v_rd_ro, r_var, r_glob, r_int, r_bl, r_non, r_str, r_tup, r_tup1, r_lst, r_lst0, r_lst1, r_dct, r_dct1, r_dct2, r_fn, r_bin, r_bin1, r_bin2, r_neg, r_neg1, r_not, r_not1, r_and, r_and1, r_or, r_or1, r_ite, r_ite1, r_kbl, r_cmp, r_cmp1, r_cmp2, r_chain, r_chain1, r_chain2, r_chain3, r_chain4, r_call, r_call1, r_prim, r_prim1, r_primB, r_primB1, r_new, r_sub, r_sub1, r_sub2, r_dsub, r_dsub1, r_dsub2, r_app, r_app1, r_app2, r_get, r_get1, r_get2, r_get3, r_frz, r_frz1, r_es0, r_es, r_es1, r_es2, r_ps0, r_ps, r_ps1, r_ps2, r_ps3, r_o0, r_o, r_o1, r_g0, r_g, r_g1, r_cut, r_cut0, r_cut1, r_cut2, r_comp, r_comp1, r_comp2, r_step, r_step1, r_step2, r_step3, r_walkL0, r_walkL, r_walkL1, r_seq, r_seq1, r_seq2, r_rng1, r_rng1a, r_rng2, r_rng2a, r_rng2b, r_in, r_zip, r_zip1, r_zip2, r_c, r_asg, r_asg1, r_nx, r_set, r_set1, r_set2, r_set3, r_st, r_expr, r_expr1, r_ret, r_ret1, r_if, r_if1, r_pass, r_ss0, r_ss, r_ss1, r_ss2, r_for, r_for1, r_fstep, r_for2, r_walkF0, r_walkF, r_walkF1, r_walkF2, v_rd_int, v_rd_bl, v_rd_str, v_rd_non, v_rd_tup, v_rd_lst, v_rd_dct, v_rR_int, v_rR_bl, v_rR_str, v_rR_non, v_rR_tup, v_rR_lst, v_rR_dct, v_rR_ro, v_rR_box, v_and, v_or, a_0, a_1, a_2, a_3, a_4, p_int, p_inti, p_lenl, p_lent, p_max, p_min, p_abs, p_all3, f_sd, f_w, p_isint, p_isinl, p_isini, p_isinb, p_isins, p_isinn, c_isn, c_isb, c_isi, c_iss, c_ist, c_isl, c_inl, c_int, b_add, b_sub, b_mul, b_mul0, b_mul1, b_w2, b_w3, v_rd_w, v_un_w, c_eqi, c_nei, c_eqs, c_lt, c_le, c_gt, c_ge, s_t, s_l, t_nm, t_tp, t_0, t_1, u_int, u_bl, u_str, u_non, u_tup, u_lst, u_0, u_1, u_s, l_5, l_4, l_3, l_2, l_1, l_0, n_0, n_1, n_2, n_3, n_4, n_5, n_6, n_7, n_8, n_9, n_10, n_11, n_12, m_0, m_1, m_2, m_3, m_4, m_5, m_6, m_7, m_8, m_9, m_10, m_11, m_12, m_13, m_14, m_15, m_16, i_23, eq_nn, eq_bb, eq_ll, beq_self_eq_true, isTy, fin_bl, fin_int, fin_tup, fin_lst, fin_nx, Option.bind_some, Option.map_some, List.map_cons, List.map_nil, List.length_cons, List.length_nil, List.replicate, List.getElem?_cons_zero, List.getElem?_cons_succ, List.set_cons_zero, List.set_cons_succ, List.cons_append, List.nil_append, List.append_nil, Nat.sub_self, List.take_length, Bool.false_eq_true, reduceIte, Bool.and_true, Bool.true_and, Bool.not_true, Bool.not_false, Bool.false_and, Bool.and_false, Nat.reduceSub, List.replicate_succ, List.replicate_zero, Nat.succ_sub_succ, decide_true, decide_false, Int.reduceEq, Int.reduceLT, Int.reduceLE, Int.reduceNeg, Int.reduceGT, gt_iff_lt, ge_iff_le, Bool.and_assoc, List.any_cons, List.any_nil, Bool.or_true, Bool.true_or, Bool.or_false, Bool.false_or]
theorem pls_st (n : Nat) : ∀ l : List Stand, D.pls (n + 1) (l.map Stand.d) = true
  | [] => by simp -implicitDefEqProofs [D.pls]
  | a :: l => by simp -implicitDefEqProofs [D.pls, pls_st n l, Stand.d, D.pl]
theorem ev_law_is_shut (fuel k : Nat) (l : List Stand) (hl : l.length ≤ 16) (st : Store) : evCall T fuel (k + 1) 29 [crD l] st = some (.bl (shut l), st) := by
  have w := lshut_walk ⟨evCall T fuel k, st.length, fuel⟩ st (some (crD l)) l [] none (by simp; omega)
  have hc : cmpD .eq (.lst ((l.filter fun s => !decide (s.h = 0) || !decide (s.m = 0)).map Stand.d)) (.lst []) = some (shut l) := by
    show eqD _ _ = _
    unfold eqD
    rw [if_pos (by simp -implicitDefEqProofs [scal, D.pl, D.pls, pls_st 6])]
    congr 1
    rw [Bool.eq_iff_iff]
    cases hf : l.filter (fun s => !decide (s.h = 0) || !decide (s.m = 0)) with
    | nil =>
      simp -implicitDefEqProofs only [List.map_nil, D.eqv, D.eqvs, true_iff]
      refine List.all_eq_true.mpr fun s hs => ?_
      have := List.filter_eq_nil_iff.mp hf s hs
      simpa using this
    | cons a m =>
      simp -implicitDefEqProofs only [List.map_cons, D.eqv, D.eqvs, Bool.false_eq_true, false_iff]
      intro hall
      have ha : a ∈ l.filter (fun s => !decide (s.h = 0) || !decide (s.m = 0)) := by rw [hf]; exact List.mem_cons_self
      obtain ⟨h1, h2⟩ := List.mem_filter.mp ha
      have := List.all_eq_true.mp hall a h1
      simp -implicitDefEqProofs only [Bool.and_eq_true, decide_eq_true_eq] at this
      simp -implicitDefEqProofs [this.1, this.2] at h2
  rw [call_eq (fn := f_law_is_shut) rfl rfl]
  simp -implicitDefEqProofs only [List.nil_append, List.map_nil] at w
  simp -implicitDefEqProofs only [crD] at w ⊢
  simp -implicitDefEqProofs only [f_law_is_shut, f_law_is_shut_x0, w, hc, r_din, r_din1, r_din2, r_din3, r_pop, r_pop1, r_gt, r_gt1, r_gt2, r_cat, r_cat1, r_cat2, r_cat3, r_sk, r_sk1, r_sk2, r_sk3, r_keys, r_keys1, r_items, r_items1, r_dcm, r_dcm1, r_dcm2, r_dcs, r_dcs1, r_dcs2, r_dcs3, r_dcs4, r_whl, r_dctB, v_rd_ro, r_var, r_glob, r_int, r_bl, r_non, r_str, r_tup, r_tup1, r_lst, r_lst0, r_lst1, r_dct, r_dct1, r_dct2, r_fn, r_bin, r_bin1, r_bin2, r_neg, r_neg1, r_not, r_not1, r_and, r_and1, r_or, r_or1, r_ite, r_ite1, r_kbl, r_cmp, r_cmp1, r_cmp2, r_chain, r_chain1, r_chain2, r_chain3, r_chain4, r_call, r_call1, r_prim, r_prim1, r_primB, r_primB1, r_new, r_sub, r_sub1, r_sub2, r_dsub, r_dsub1, r_dsub2, r_app, r_app1, r_app2, r_get, r_get1, r_get2, r_get3, r_frz, r_frz1, r_es0, r_es, r_es1, r_es2, r_ps0, r_ps, r_ps1, r_ps2, r_ps3, r_o0, r_o, r_o1, r_g0, r_g, r_g1, r_cut, r_cut0, r_cut1, r_cut2, r_comp, r_comp1, r_comp2, r_step, r_step1, r_step2, r_step3, r_walkL0, r_walkL, r_walkL1, r_seq, r_seq1, r_seq2, r_rng1, r_rng1a, r_rng2, r_rng2a, r_rng2b, r_in, r_zip, r_zip1, r_zip2, r_c, r_asg, r_asg1, r_nx, r_set, r_set1, r_set2, r_set3, r_st, r_expr, r_expr1, r_ret, r_ret1, r_if, r_if1, r_pass, r_ss0, r_ss, r_ss1, r_ss2, r_for, r_for1, r_fstep, r_for2, r_walkF0, r_walkF, r_walkF1, r_walkF2, v_rd_int, v_rd_bl, v_rd_str, v_rd_non, v_rd_tup, v_rd_lst, v_rd_dct, v_rR_int, v_rR_bl, v_rR_str, v_rR_non, v_rR_tup, v_rR_lst, v_rR_dct, v_rR_ro, v_rR_box, v_and, v_or, a_0, a_1, a_2, a_3, a_4, p_int, p_inti, p_lenl, p_lent, p_max, p_min, p_abs, p_all3, f_sd, f_w, p_isint, p_isinl, p_isini, p_isinb, p_isins, p_isinn, c_isn, c_isb, c_isi, c_iss, c_ist, c_isl, c_inl, c_int, b_add, b_sub, b_mul, b_mul0, b_mul1, b_w2, b_w3, v_rd_w, v_un_w, c_eqi, c_nei, c_eqs, c_lt, c_le, c_gt, c_ge, s_t, s_l, t_nm, t_tp, t_0, t_1, u_int, u_bl, u_str, u_non, u_tup, u_lst, u_0, u_1, u_s, l_5, l_4, l_3, l_2, l_1, l_0, n_0, n_1, n_2, n_3, n_4, n_5, n_6, n_7, n_8, n_9, n_10, n_11, n_12, m_0, m_1, m_2, m_3, m_4, m_5, m_6, m_7, m_8, m_9, m_10, m_11, m_12, m_13, m_14, m_15, m_16, i_23, eq_nn, eq_bb, eq_ll, beq_self_eq_true, isTy, fin_bl, fin_int, fin_tup, fin_lst, fin_nx, Option.bind_some, Option.map_some, List.map_cons, List.map_nil, List.length_cons, List.length_nil, List.replicate, List.getElem?_cons_zero, List.getElem?_cons_succ, List.set_cons_zero, List.set_cons_succ, List.cons_append, List.nil_append, List.append_nil, Nat.sub_self, List.take_length, Bool.false_eq_true, reduceIte, Bool.and_true, Bool.true_and, Bool.not_true, Bool.not_false, Bool.false_and, Bool.and_false, Nat.reduceSub, List.replicate_succ, List.replicate_zero, Nat.succ_sub_succ, decide_true, decide_false, Int.reduceEq, Int.reduceLT, Int.reduceLE, Int.reduceNeg, Int.reduceGT, gt_iff_lt, ge_iff_le, Bool.and_assoc, List.any_cons, List.any_nil, Bool.or_true, Bool.true_or, Bool.or_false, Bool.false_or]
def enD (x : List Stand × List Bool) : D := .tup [crD x.1, rwD x.2]
def mD (met : List (List Stand)) : B := .dct true (met.map crD) (met.map fun _ => .bl true)
theorem rd_mid {st rest : Store} {met : List (List Stand)} : rd (st ++ mD met :: rest) (.box st.length) = .dct true (met.map crD) (met.map fun _ => .bl true) := by
  simp -implicitDefEqProofs [rd, mD]
theorem setK_mid {st rest : Store} {met : List (List Stand)} {c : List Stand} {bs : Nat} (hc : c ∉ met) (hl : met.length < LIM) : setK bs (.box st.length) (crD c) (.bl true) (st ++ mD met :: rest) = some (st ++ mD (met ++ [c]) :: rest) := by
  have hf := kd_crowd.fits c
  have hat : (st ++ mD met :: rest)[st.length]? = some (mD met) := by simp
  unfold setK
  simp -implicitDefEqProofs only [hat]
  simp -implicitDefEqProofs only [mD]
  rw [if_pos (by rw [hf, List.length_map, decide_eq_true hl]; rfl)]
  unfold put
  rw [if_pos (.inr (by simp -implicitDefEqProofs [D.under]))]
  unfold dput
  rw [kfind_none kd_crowd hc]
  simp -implicitDefEqProofs [mD]
theorem app_end {σ : Store} {ds : List D} {x : D} {bs : Nat} (h : bs ≤ σ.length) : appendD bs (.box σ.length) x (σ ++ [.lst ds]) = if ds.length < LIM then some (.non, σ ++ [.lst (ds ++ [x])]) else none := by
  simp -implicitDefEqProofs [appendD, put, h]
theorem frz_end {σ : Store} {ds : List D} {bs : Nat} (h : bs ≤ σ.length) : frzD bs (.box σ.length) (σ ++ [.lst ds]) = some (.lst ds, σ ++ [.dead]) := by simp -implicitDefEqProofs [frzD, h]
theorem lrow_press (fuel k fu b : Nat) (p : Plan) (hp : p.Ok) (σ : Store) (x1 x2 : Option D) (hb : b ≤ σ.length) (s : List Stand) (cs0 : Cd p s) (r : List Bool) (hr : r.length ≤ 70000) : ∀ (cs : List Bool) (later : List (List Stand × List Bool)) (x6 : Option D), later.length + cs.length ≤ 200000 →
    ∃ y6, walkF (fStep ⟨evCall T fuel (k + 3), b, fu⟩ (.name 6) [.expr (.append (.var 3) (.tup [.call 28 [.var 0, .var 4, .var 6], .bin .add (.var 5) (.tup [.var 6])]))]) (cs.map D.bl) [some p.d, x1, x2, some (.box σ.length), some (crD s), some (rwD r), x6] (σ ++ [.lst (later.map enD)]) =
      some (.nx [some p.d, x1, x2, some (.box σ.length), some (crD s), some (rwD r), y6], σ ++ [.lst ((later ++ cs.map fun g => (led p s g, r ++ [g])).map enD)])
  | [], later, x6, h => ⟨x6, by simp -implicitDefEqProofs [walkF]⟩
  | c :: cs, later, x6, h => by
    obtain ⟨y6, ih⟩ := lrow_press fuel k fu b p hp σ x1 x2 hb s cs0 r hr cs (later ++ [(led p s c, r ++ [c])]) (some (.bl c)) (by simp -implicitDefEqProofs only [List.length_cons, List.length_append, List.length_nil] at h ⊢; omega)
    refine ⟨y6, ?_⟩
    have e1 := fun st => ev_law_led fuel k p hp s cs0 c st
    have hadd : binD .add (rwD r) (.tup [.bl c]) = some (rwD (r ++ [c])) := by
      show binD .add (.tup _) _ = _
      rw [b_addt (by simp -implicitDefEqProofs only [List.length_map, List.length_cons, List.length_nil]; unfold LIM; omega), row_snoc]; rfl
    have hrd : ∀ st : Store, rd st (rwD r) = rwD r := fun _ => rfl
    have hll : (later.map enD).length < LIM := by
      simp -implicitDefEqProofs only [List.length_cons, List.length_map] at h ⊢
      unfold LIM; omega
    have hlb : isLB (.box σ.length) (σ ++ [.lst (later.map enD)]) = true := by simp -implicitDefEqProofs [isLB]
    have ha := fun x => app_end (bs := b) (σ := σ) (ds := later.map enD) (x := x) hb
    have hm : (later ++ [(led p s c, r ++ [c])]).map enD = later.map enD ++ [.tup [crD (led p s c), rwD (r ++ [c])]] := by simp -implicitDefEqProofs [enD]
    rw [hm, List.append_assoc] at ih
    simp -implicitDefEqProofs only [List.map_cons (f := D.bl), e1, hadd, hrd, hlb, ha, hll, ih, List.map_cons (f := fun g => (led p s g, r ++ [g])), r_din, r_din1, r_din2, r_din3, r_pop, r_pop1, r_gt, r_gt1, r_gt2, r_cat, r_cat1, r_cat2, r_cat3, r_sk, r_sk1, r_sk2, r_sk3, r_keys, r_keys1, r_items, r_items1, r_dcm, r_dcm1, r_dcm2, r_dcs, r_dcs1, r_dcs2, r_dcs3, r_dcs4, r_whl, r_dctB, v_rd_ro, r_var, r_glob, r_int, r_bl, r_non, r_str, r_tup, r_tup1, r_lst, r_lst0, r_lst1, r_dct, r_dct1, r_dct2, r_fn, r_bin, r_bin1, r_bin2, r_neg, r_neg1, r_not, r_not1, r_and, r_and1, r_or, r_or1, r_ite, r_ite1, r_kbl, r_cmp, r_cmp1, r_cmp2, r_chain, r_chain1, r_chain2, r_chain3, r_chain4, r_call, r_call1, r_prim, r_prim1, r_primB, r_primB1, r_new, r_sub, r_sub1, r_sub2, r_dsub, r_dsub1, r_dsub2, r_app, r_app1, r_app2, r_get, r_get1, r_get2, r_get3, r_frz, r_frz1, r_es0, r_es, r_es1, r_es2, r_ps0, r_ps, r_ps1, r_ps2, r_ps3, r_o0, r_o, r_o1, r_g0, r_g, r_g1, r_cut, r_cut0, r_cut1, r_cut2, r_comp, r_comp1, r_comp2, r_step, r_step1, r_step2, r_step3, r_walkL0, r_walkL, r_walkL1, r_seq, r_seq1, r_seq2, r_rng1, r_rng1a, r_rng2, r_rng2a, r_rng2b, r_in, r_zip, r_zip1, r_zip2, r_c, r_asg, r_asg1, r_nx, r_set, r_set1, r_set2, r_set3, r_st, r_expr, r_expr1, r_ret, r_ret1, r_if, r_if1, r_pass, r_ss0, r_ss, r_ss1, r_ss2, r_for, r_for1, r_fstep, r_for2, r_walkF0, r_walkF, r_walkF1, r_walkF2, v_rd_int, v_rd_bl, v_rd_str, v_rd_non, v_rd_tup, v_rd_lst, v_rd_dct, v_rR_int, v_rR_bl, v_rR_str, v_rR_non, v_rR_tup, v_rR_lst, v_rR_dct, v_rR_ro, v_rR_box, v_and, v_or, a_0, a_1, a_2, a_3, a_4, p_int, p_inti, p_lenl, p_lent, p_max, p_min, p_abs, p_all3, f_sd, f_w, p_isint, p_isinl, p_isini, p_isinb, p_isins, p_isinn, c_isn, c_isb, c_isi, c_iss, c_ist, c_isl, c_inl, c_int, b_add, b_sub, b_mul, b_mul0, b_mul1, b_w2, b_w3, v_rd_w, v_un_w, c_eqi, c_nei, c_eqs, c_lt, c_le, c_gt, c_ge, s_t, s_l, t_nm, t_tp, t_0, t_1, u_int, u_bl, u_str, u_non, u_tup, u_lst, u_0, u_1, u_s, l_5, l_4, l_3, l_2, l_1, l_0, n_0, n_1, n_2, n_3, n_4, n_5, n_6, n_7, n_8, n_9, n_10, n_11, n_12, m_0, m_1, m_2, m_3, m_4, m_5, m_6, m_7, m_8, m_9, m_10, m_11, m_12, m_13, m_14, m_15, m_16, i_23, eq_nn, eq_bb, eq_ll, beq_self_eq_true, isTy, fin_bl, fin_int, fin_tup, fin_lst, fin_nx, Option.bind_some, Option.map_some, List.map_cons, List.map_nil, List.length_cons, List.length_nil, List.replicate, List.getElem?_cons_zero, List.getElem?_cons_succ, List.set_cons_zero, List.set_cons_succ, List.cons_append, List.nil_append, List.append_nil, Nat.sub_self, List.take_length, Bool.false_eq_true, reduceIte, Bool.and_true, Bool.true_and, Bool.not_true, Bool.not_false, Bool.false_and, Bool.and_false, Nat.reduceSub, List.replicate_succ, List.replicate_zero, Nat.succ_sub_succ, decide_true, decide_false, Int.reduceEq, Int.reduceLT, Int.reduceLE, Int.reduceNeg, Int.reduceGT, gt_iff_lt, ge_iff_le, Bool.and_assoc, List.any_cons, List.any_nil, Bool.or_true, Bool.true_or, Bool.or_false, Bool.false_or]
/-- what the law's walk keeps -/
structure LwQ (p : Plan) (n : Nat) (Q : List (List Stand × List Bool)) (met : List (List Stand)) : Prop where
  f : Fu 65536 n Q met
  e : fifo (led p) [false, true] shut n Q met = dueRow p
  m : Mts (allC p) Q met
  r : ∀ x ∈ Q, x.2.length ≤ met.length
theorem lrow_line (fuel k fu b : Nat) (p : Plan) (hp : p.Ok) (st : Store) (hb : b = st.length) (x1 : Option D) : ∀ (line : List (List Stand × List Bool)) (n : Nat) (later : List (List Stand × List Bool)) (met : List (List Stand)) (junk : Store) (x4 x5 x6 : Option D), LwQ p n (line ++ later) met → later.length ≤ 2 * met.length →
    (∃ row st', dueRow p = some row ∧ st'.take b = st ∧ walkF (fStep ⟨evCall T fuel (k + 3), b, fu⟩ (.tup [.name 4, .name 5]) (match f_law_shut_row_1 with | .whl _ [_, .for_ _ _ bd, _] :: _ => bd | _ => [])) (line.map enD) [some p.d, x1, some (.box b), some (.box (st ++ mD met :: junk).length), x4, x5, x6] ((st ++ mD met :: junk) ++ [.lst (later.map enD)]) = some (.rt (rwD row), st')) ∨
    ∃ n' later' met' y4 y5 y6, n' + line.length ≤ n ∧ LwQ p n' later' met' ∧ later'.length ≤ 2 * met'.length ∧ walkF (fStep ⟨evCall T fuel (k + 3), b, fu⟩ (.tup [.name 4, .name 5]) (match f_law_shut_row_1 with | .whl _ [_, .for_ _ _ bd, _] :: _ => bd | _ => [])) (line.map enD) [some p.d, x1, some (.box b), some (.box (st ++ mD met :: junk).length), x4, x5, x6] ((st ++ mD met :: junk) ++ [.lst (later.map enD)]) =
      some (.nx [some p.d, x1, some (.box b), some (.box (st ++ mD met' :: junk).length), y4, y5, y6], (st ++ mD met' :: junk) ++ [.lst (later'.map enD)])
  | [], n, later, met, junk, x4, x5, x6, q, hl => .inr ⟨n, later, met, x4, x5, x6, by simp, q, hl, rfl⟩
  | (c, r) :: line, n, later, met, junk, x4, x5, x6, q, hl => by
    subst hb
    obtain ⟨f, e, m, hr⟩ := q
    cases n with
    | zero => exact absurd f (by unfold Fu; omega)
    | succ n =>
      simp -implicitDefEqProofs only [List.cons_append] at f e m hr
      have hen : enD (c, r) = .tup [crD c, rwD r] := rfl
      have hmid := fun rest => rd_mid (st := st) (rest := rest) (met := met)
      have e0 : (st ++ mD met :: junk) ++ [.lst (later.map enD)] = st ++ mD met :: (junk ++ [.lst (later.map enD)]) := by simp
      simp -implicitDefEqProofs only [fifo] at e
      by_cases hc : c ∈ met
      · have hdin : dinD (.dct true (met.map crD) (met.map fun _ => .bl true)) (crD c) = some true := din_yes kd_crowd hc
        rw [if_pos hc] at e
        have ih := lrow_line fuel k fu st.length p hp st rfl x1 line n later met junk (some (crD c)) (some (rwD r)) x6 ⟨f.skip, e, m.skip, fun x hx => hr x (List.mem_cons_of_mem _ hx)⟩ hl
        simp -implicitDefEqProofs only [f_law_shut_row_1, e0] at ih ⊢
        have key : walkF (fStep ⟨evCall T fuel (k + 3), st.length, fu⟩ (.tup [.name 4, .name 5]) (match f_law_shut_row_1 with | .whl _ [_, .for_ _ _ bd, _] :: _ => bd | _ => [])) (((c, r) :: line).map enD) [some p.d, x1, some (.box st.length), some (.box (st ++ mD met :: junk).length), x4, x5, x6] (st ++ mD met :: (junk ++ [.lst (later.map enD)])) =
            walkF (fStep ⟨evCall T fuel (k + 3), st.length, fu⟩ (.tup [.name 4, .name 5]) (match f_law_shut_row_1 with | .whl _ [_, .for_ _ _ bd, _] :: _ => bd | _ => [])) (line.map enD) [some p.d, x1, some (.box st.length), some (.box (st ++ mD met :: junk).length), some (crD c), some (rwD r), x6] (st ++ mD met :: (junk ++ [.lst (later.map enD)])) := by
          simp -implicitDefEqProofs only [f_law_shut_row_1, List.map_cons (f := enD), hen, hmid, hdin, bne_self_eq_false, r_din, r_din1, r_din2, r_din3, r_pop, r_pop1, r_gt, r_gt1, r_gt2, r_cat, r_cat1, r_cat2, r_cat3, r_sk, r_sk1, r_sk2, r_sk3, r_keys, r_keys1, r_items, r_items1, r_dcm, r_dcm1, r_dcm2, r_dcs, r_dcs1, r_dcs2, r_dcs3, r_dcs4, r_whl, r_dctB, v_rd_ro, r_var, r_glob, r_int, r_bl, r_non, r_str, r_tup, r_tup1, r_lst, r_lst0, r_lst1, r_dct, r_dct1, r_dct2, r_fn, r_bin, r_bin1, r_bin2, r_neg, r_neg1, r_not, r_not1, r_and, r_and1, r_or, r_or1, r_ite, r_ite1, r_kbl, r_cmp, r_cmp1, r_cmp2, r_chain, r_chain1, r_chain2, r_chain3, r_chain4, r_call, r_call1, r_prim, r_prim1, r_primB, r_primB1, r_new, r_sub, r_sub1, r_sub2, r_dsub, r_dsub1, r_dsub2, r_app, r_app1, r_app2, r_get, r_get1, r_get2, r_get3, r_frz, r_frz1, r_es0, r_es, r_es1, r_es2, r_ps0, r_ps, r_ps1, r_ps2, r_ps3, r_o0, r_o, r_o1, r_g0, r_g, r_g1, r_cut, r_cut0, r_cut1, r_cut2, r_comp, r_comp1, r_comp2, r_step, r_step1, r_step2, r_step3, r_walkL0, r_walkL, r_walkL1, r_seq, r_seq1, r_seq2, r_rng1, r_rng1a, r_rng2, r_rng2a, r_rng2b, r_in, r_zip, r_zip1, r_zip2, r_c, r_asg, r_asg1, r_nx, r_set, r_set1, r_set2, r_set3, r_st, r_expr, r_expr1, r_ret, r_ret1, r_if, r_if1, r_pass, r_ss0, r_ss, r_ss1, r_ss2, r_for, r_for1, r_fstep, r_for2, r_walkF0, r_walkF, r_walkF1, r_walkF2, v_rd_int, v_rd_bl, v_rd_str, v_rd_non, v_rd_tup, v_rd_lst, v_rd_dct, v_rR_int, v_rR_bl, v_rR_str, v_rR_non, v_rR_tup, v_rR_lst, v_rR_dct, v_rR_ro, v_rR_box, v_and, v_or, a_0, a_1, a_2, a_3, a_4, p_int, p_inti, p_lenl, p_lent, p_max, p_min, p_abs, p_all3, f_sd, f_w, p_isint, p_isinl, p_isini, p_isinb, p_isins, p_isinn, c_isn, c_isb, c_isi, c_iss, c_ist, c_isl, c_inl, c_int, b_add, b_sub, b_mul, b_mul0, b_mul1, b_w2, b_w3, v_rd_w, v_un_w, c_eqi, c_nei, c_eqs, c_lt, c_le, c_gt, c_ge, s_t, s_l, t_nm, t_tp, t_0, t_1, u_int, u_bl, u_str, u_non, u_tup, u_lst, u_0, u_1, u_s, l_5, l_4, l_3, l_2, l_1, l_0, n_0, n_1, n_2, n_3, n_4, n_5, n_6, n_7, n_8, n_9, n_10, n_11, n_12, m_0, m_1, m_2, m_3, m_4, m_5, m_6, m_7, m_8, m_9, m_10, m_11, m_12, m_13, m_14, m_15, m_16, i_23, eq_nn, eq_bb, eq_ll, beq_self_eq_true, isTy, fin_bl, fin_int, fin_tup, fin_lst, fin_nx, Option.bind_some, Option.map_some, List.map_cons, List.map_nil, List.length_cons, List.length_nil, List.replicate, List.getElem?_cons_zero, List.getElem?_cons_succ, List.set_cons_zero, List.set_cons_succ, List.cons_append, List.nil_append, List.append_nil, Nat.sub_self, List.take_length, Bool.false_eq_true, reduceIte, Bool.and_true, Bool.true_and, Bool.not_true, Bool.not_false, Bool.false_and, Bool.and_false, Nat.reduceSub, List.replicate_succ, List.replicate_zero, Nat.succ_sub_succ, decide_true, decide_false, Int.reduceEq, Int.reduceLT, Int.reduceLE, Int.reduceNeg, Int.reduceGT, gt_iff_lt, ge_iff_le, Bool.and_assoc, List.any_cons, List.any_nil, Bool.or_true, Bool.true_or, Bool.or_false, Bool.false_or]
        simp -implicitDefEqProofs only [f_law_shut_row_1] at key
        rw [key]
        rcases ih with ih | ⟨n', later', met', y4, y5, y6, h1, h2, h3, h4⟩
        · exact .inl ih
        · exact .inr ⟨n', later', met', y4, y5, y6, by simp -implicitDefEqProofs only [List.length_cons]; omega, h2, h3, h4⟩
      · have hdin : dinD (.dct true (met.map crD) (met.map fun _ => .bl true)) (crD c) = some false := din_no kd_crowd hc
        rw [if_neg hc] at e
        have few := m.few1 hc
        have fewB := allC_len p hp
        have cc := allC_cd p hp (m.qs _ List.mem_cons_self)
        have hset := fun rest => setK_mid (st := st) (rest := rest) (bs := st.length) hc (by unfold LIM; omega)
        have es := fun st => ev_law_is_shut fuel (k + 2) c (cc.few hp) st
        have hrl := hr _ List.mem_cons_self
        simp only at hrl
        cases hg : shut c with
        | true =>
          rw [hg, if_pos rfl] at e
          refine .inl ⟨r, st ++ mD (met ++ [c]) :: (junk ++ [.lst (later.map enD)]), e.symm, by simp, ?_⟩
          simp -implicitDefEqProofs only [f_law_shut_row_1, e0, List.map_cons (f := enD), hen, hmid, hdin, hset, es, hg, Bool.bne_true, Bool.false_bne, r_din, r_din1, r_din2, r_din3, r_pop, r_pop1, r_gt, r_gt1, r_gt2, r_cat, r_cat1, r_cat2, r_cat3, r_sk, r_sk1, r_sk2, r_sk3, r_keys, r_keys1, r_items, r_items1, r_dcm, r_dcm1, r_dcm2, r_dcs, r_dcs1, r_dcs2, r_dcs3, r_dcs4, r_whl, r_dctB, v_rd_ro, r_var, r_glob, r_int, r_bl, r_non, r_str, r_tup, r_tup1, r_lst, r_lst0, r_lst1, r_dct, r_dct1, r_dct2, r_fn, r_bin, r_bin1, r_bin2, r_neg, r_neg1, r_not, r_not1, r_and, r_and1, r_or, r_or1, r_ite, r_ite1, r_kbl, r_cmp, r_cmp1, r_cmp2, r_chain, r_chain1, r_chain2, r_chain3, r_chain4, r_call, r_call1, r_prim, r_prim1, r_primB, r_primB1, r_new, r_sub, r_sub1, r_sub2, r_dsub, r_dsub1, r_dsub2, r_app, r_app1, r_app2, r_get, r_get1, r_get2, r_get3, r_frz, r_frz1, r_es0, r_es, r_es1, r_es2, r_ps0, r_ps, r_ps1, r_ps2, r_ps3, r_o0, r_o, r_o1, r_g0, r_g, r_g1, r_cut, r_cut0, r_cut1, r_cut2, r_comp, r_comp1, r_comp2, r_step, r_step1, r_step2, r_step3, r_walkL0, r_walkL, r_walkL1, r_seq, r_seq1, r_seq2, r_rng1, r_rng1a, r_rng2, r_rng2a, r_rng2b, r_in, r_zip, r_zip1, r_zip2, r_c, r_asg, r_asg1, r_nx, r_set, r_set1, r_set2, r_set3, r_st, r_expr, r_expr1, r_ret, r_ret1, r_if, r_if1, r_pass, r_ss0, r_ss, r_ss1, r_ss2, r_for, r_for1, r_fstep, r_for2, r_walkF0, r_walkF, r_walkF1, r_walkF2, v_rd_int, v_rd_bl, v_rd_str, v_rd_non, v_rd_tup, v_rd_lst, v_rd_dct, v_rR_int, v_rR_bl, v_rR_str, v_rR_non, v_rR_tup, v_rR_lst, v_rR_dct, v_rR_ro, v_rR_box, v_and, v_or, a_0, a_1, a_2, a_3, a_4, p_int, p_inti, p_lenl, p_lent, p_max, p_min, p_abs, p_all3, f_sd, f_w, p_isint, p_isinl, p_isini, p_isinb, p_isins, p_isinn, c_isn, c_isb, c_isi, c_iss, c_ist, c_isl, c_inl, c_int, b_add, b_sub, b_mul, b_mul0, b_mul1, b_w2, b_w3, v_rd_w, v_un_w, c_eqi, c_nei, c_eqs, c_lt, c_le, c_gt, c_ge, s_t, s_l, t_nm, t_tp, t_0, t_1, u_int, u_bl, u_str, u_non, u_tup, u_lst, u_0, u_1, u_s, l_5, l_4, l_3, l_2, l_1, l_0, n_0, n_1, n_2, n_3, n_4, n_5, n_6, n_7, n_8, n_9, n_10, n_11, n_12, m_0, m_1, m_2, m_3, m_4, m_5, m_6, m_7, m_8, m_9, m_10, m_11, m_12, m_13, m_14, m_15, m_16, i_23, eq_nn, eq_bb, eq_ll, beq_self_eq_true, isTy, fin_bl, fin_int, fin_tup, fin_lst, fin_nx, Option.bind_some, Option.map_some, List.map_cons, List.map_nil, List.length_cons, List.length_nil, List.replicate, List.getElem?_cons_zero, List.getElem?_cons_succ, List.set_cons_zero, List.set_cons_succ, List.cons_append, List.nil_append, List.append_nil, Nat.sub_self, List.take_length, Bool.false_eq_true, reduceIte, Bool.and_true, Bool.true_and, Bool.not_true, Bool.not_false, Bool.false_and, Bool.and_false, Nat.reduceSub, List.replicate_succ, List.replicate_zero, Nat.succ_sub_succ, decide_true, decide_false, Int.reduceEq, Int.reduceLT, Int.reduceLE, Int.reduceNeg, Int.reduceGT, gt_iff_lt, ge_iff_le, Bool.and_assoc, List.any_cons, List.any_nil, Bool.or_true, Bool.true_or, Bool.or_false, Bool.false_or]
        | false =>
          rw [hg, if_neg (by simp), List.append_assoc] at e
          have q' : LwQ p n (line ++ (later ++ [false, true].map fun g => (led p c g, r ++ [g]))) (met ++ [c]) := by
            refine ⟨?_, e, ?_, fun x hx => ?_⟩
            · have := f.new (l := [false, true].map fun g => (led p c g, r ++ [g])) (c := c) (by simp) (by omega)
              rw [List.append_assoc] at this
              exact this
            · have := m.new hc (led_cl p hp c (m.qs _ List.mem_cons_self))
              rw [List.append_assoc] at this
              exact this
            · rw [List.length_append, List.length_singleton]
              rw [← List.append_assoc] at hx
              rcases List.mem_append.mp hx with hx | hx
              · have := hr x (List.mem_cons_of_mem _ hx); omega
              · obtain ⟨g, _, rfl⟩ := List.mem_map.mp hx
                simp -implicitDefEqProofs only [List.length_append, List.length_singleton]
                omega
          obtain ⟨y6, ep⟩ := lrow_press fuel k fu st.length p hp (st ++ mD (met ++ [c]) :: junk) x1 (some (.box st.length)) (by simp) c cc r (by omega) [false, true] later x6 (by simp -implicitDefEqProofs only [List.length_cons, List.length_nil]; omega)
          have ih := lrow_line fuel k fu st.length p hp st rfl x1 line n (later ++ [false, true].map fun g => (led p c g, r ++ [g])) (met ++ [c]) junk (some (crD c)) (some (rwD r)) y6 q' (by simp -implicitDefEqProofs only [List.length_append, List.length_map, List.length_cons, List.length_nil]; omega)
          have e1 : (st ++ mD (met ++ [c]) :: junk).length = (st ++ mD met :: junk).length := by simp
          have e2 : ∀ x : List D, st ++ mD (met ++ [c]) :: (junk ++ [.lst x]) = (st ++ mD (met ++ [c]) :: junk) ++ [.lst x] := fun x => by simp
          rw [e1] at ep ih
          simp -implicitDefEqProofs only [List.map_cons (f := D.bl), List.map_nil (f := D.bl)] at ep
          have key : walkF (fStep ⟨evCall T fuel (k + 3), st.length, fu⟩ (.tup [.name 4, .name 5]) (match f_law_shut_row_1 with | .whl _ [_, .for_ _ _ bd, _] :: _ => bd | _ => [])) (((c, r) :: line).map enD) [some p.d, x1, some (.box st.length), some (.box (st ++ mD met :: junk).length), x4, x5, x6] (st ++ mD met :: (junk ++ [.lst (later.map enD)])) =
              walkF (fStep ⟨evCall T fuel (k + 3), st.length, fu⟩ (.tup [.name 4, .name 5]) (match f_law_shut_row_1 with | .whl _ [_, .for_ _ _ bd, _] :: _ => bd | _ => [])) (line.map enD) [some p.d, x1, some (.box st.length), some (.box (st ++ mD met :: junk).length), some (crD c), some (rwD r), y6] ((st ++ mD (met ++ [c]) :: junk) ++ [.lst ((later ++ [false, true].map fun g => (led p c g, r ++ [g])).map enD)]) := by
            simp -implicitDefEqProofs only [f_law_shut_row_1, List.map_cons (f := enD), hen, hmid, hdin, hset, es, hg, e2, ep, Bool.bne_true, Bool.false_bne, r_din, r_din1, r_din2, r_din3, r_pop, r_pop1, r_gt, r_gt1, r_gt2, r_cat, r_cat1, r_cat2, r_cat3, r_sk, r_sk1, r_sk2, r_sk3, r_keys, r_keys1, r_items, r_items1, r_dcm, r_dcm1, r_dcm2, r_dcs, r_dcs1, r_dcs2, r_dcs3, r_dcs4, r_whl, r_dctB, v_rd_ro, r_var, r_glob, r_int, r_bl, r_non, r_str, r_tup, r_tup1, r_lst, r_lst0, r_lst1, r_dct, r_dct1, r_dct2, r_fn, r_bin, r_bin1, r_bin2, r_neg, r_neg1, r_not, r_not1, r_and, r_and1, r_or, r_or1, r_ite, r_ite1, r_kbl, r_cmp, r_cmp1, r_cmp2, r_chain, r_chain1, r_chain2, r_chain3, r_chain4, r_call, r_call1, r_prim, r_prim1, r_primB, r_primB1, r_new, r_sub, r_sub1, r_sub2, r_dsub, r_dsub1, r_dsub2, r_app, r_app1, r_app2, r_get, r_get1, r_get2, r_get3, r_frz, r_frz1, r_es0, r_es, r_es1, r_es2, r_ps0, r_ps, r_ps1, r_ps2, r_ps3, r_o0, r_o, r_o1, r_g0, r_g, r_g1, r_cut, r_cut0, r_cut1, r_cut2, r_comp, r_comp1, r_comp2, r_step, r_step1, r_step2, r_step3, r_walkL0, r_walkL, r_walkL1, r_seq, r_seq1, r_seq2, r_rng1, r_rng1a, r_rng2, r_rng2a, r_rng2b, r_in, r_zip, r_zip1, r_zip2, r_c, r_asg, r_asg1, r_nx, r_set, r_set1, r_set2, r_set3, r_st, r_expr, r_expr1, r_ret, r_ret1, r_if, r_if1, r_pass, r_ss0, r_ss, r_ss1, r_ss2, r_for, r_for1, r_fstep, r_for2, r_walkF0, r_walkF, r_walkF1, r_walkF2, v_rd_int, v_rd_bl, v_rd_str, v_rd_non, v_rd_tup, v_rd_lst, v_rd_dct, v_rR_int, v_rR_bl, v_rR_str, v_rR_non, v_rR_tup, v_rR_lst, v_rR_dct, v_rR_ro, v_rR_box, v_and, v_or, a_0, a_1, a_2, a_3, a_4, p_int, p_inti, p_lenl, p_lent, p_max, p_min, p_abs, p_all3, f_sd, f_w, p_isint, p_isinl, p_isini, p_isinb, p_isins, p_isinn, c_isn, c_isb, c_isi, c_iss, c_ist, c_isl, c_inl, c_int, b_add, b_sub, b_mul, b_mul0, b_mul1, b_w2, b_w3, v_rd_w, v_un_w, c_eqi, c_nei, c_eqs, c_lt, c_le, c_gt, c_ge, s_t, s_l, t_nm, t_tp, t_0, t_1, u_int, u_bl, u_str, u_non, u_tup, u_lst, u_0, u_1, u_s, l_5, l_4, l_3, l_2, l_1, l_0, n_0, n_1, n_2, n_3, n_4, n_5, n_6, n_7, n_8, n_9, n_10, n_11, n_12, m_0, m_1, m_2, m_3, m_4, m_5, m_6, m_7, m_8, m_9, m_10, m_11, m_12, m_13, m_14, m_15, m_16, i_23, eq_nn, eq_bb, eq_ll, beq_self_eq_true, isTy, fin_bl, fin_int, fin_tup, fin_lst, fin_nx, Option.bind_some, Option.map_some, List.map_cons, List.map_nil, List.length_cons, List.length_nil, List.replicate, List.getElem?_cons_zero, List.getElem?_cons_succ, List.set_cons_zero, List.set_cons_succ, List.cons_append, List.nil_append, List.append_nil, Nat.sub_self, List.take_length, Bool.false_eq_true, reduceIte, Bool.and_true, Bool.true_and, Bool.not_true, Bool.not_false, Bool.false_and, Bool.and_false, Nat.reduceSub, List.replicate_succ, List.replicate_zero, Nat.succ_sub_succ, decide_true, decide_false, Int.reduceEq, Int.reduceLT, Int.reduceLE, Int.reduceNeg, Int.reduceGT, gt_iff_lt, ge_iff_le, Bool.and_assoc, List.any_cons, List.any_nil, Bool.or_true, Bool.true_or, Bool.or_false, Bool.false_or]
          rw [e0, key]
          rcases ih with ⟨row, st', h1, h2, h3⟩ | ⟨n', later', met', y4, y5, y7, h1, h2, h3, h4⟩
          · exact .inl ⟨row, st', h1, h2, h3⟩
          · exact .inr ⟨n', later', met', y4, y5, y7, by simp -implicitDefEqProofs only [List.length_cons]; omega, h2, h3, h4⟩
theorem pls_rw (n : Nat) : ∀ r : List Bool, D.pls n (r.map .bl) = true
  | [] => by simp -implicitDefEqProofs [D.pls]
  | c :: r => by cases n <;> simp -implicitDefEqProofs [D.pls, D.pl, pls_rw _ r]
theorem pls_en : ∀ l : List (List Stand × List Bool), D.pls 7 (l.map enD) = true
  | [] => by simp -implicitDefEqProofs [D.pls]
  | a :: l => by simp -implicitDefEqProofs [D.pls, pls_en l, enD, D.pl, crD, rwD, pls_st 4, pls_rw]
theorem ne_line (l : List (List Stand × List Bool)) : cmpD .ne (.lst (l.map enD)) (.lst []) = some (!l.isEmpty) := by
  show (eqD _ _).map _ = _
  unfold eqD
  rw [if_pos (by simp -implicitDefEqProofs [scal, D.pl, D.pls, pls_en])]
  cases l <;> simp -implicitDefEqProofs [D.eqv, D.eqvs]
theorem ev_law_shut_row (fuel k : Nat) (hf : 140000 ≤ fuel) (p : Plan) (hp : p.Ok) (st : Store) : evCall T fuel (k + 5) 30 [p.d] st = some (dueD (dueRow p), st) := by
  have ew := fun st => ev_law_ways fuel k (by omega) p hp st
  have wl := while_ok (c := evC ⟨evCall T fuel (k + 4), st.length, fuel⟩ (.cmp .ne (.var 1) (.lst false []))) (step := evSs ⟨evCall T fuel (k + 4), st.length, fuel⟩ (match f_law_shut_row_1 with | .whl _ b :: _ => b | _ => []))
    (P := fun n ρ st' => ∃ line met junk x3 x4 x5 x6, LwQ p n line met ∧ ρ = [some p.d, some (.lst (line.map enD)), some (.box st.length), x3, x4, x5, x6] ∧ st' = st ++ mD met :: junk)
    (Q := fun r st' => st'.take st.length = st ∧ ((dueRow p = none ∧ ∃ ρ, r = .nx ρ) ∨ ∃ row, dueRow p = some row ∧ r = .rt (rwD row))) (by
    rintro n ρ st' ⟨line, met, junk, x3, x4, x5, x6, q, rfl, rfl⟩
    have hne := ne_line line
    cases line with
    | nil =>
      left
      have hdue : dueRow p = none := by
        rw [← q.e]
        cases n <;> rfl
      simp -implicitDefEqProofs only [List.isEmpty_nil, Bool.not_true, List.map_nil] at hne
      exact ⟨by simp -implicitDefEqProofs only [List.map_nil, hne, r_din, r_din1, r_din2, r_din3, r_pop, r_pop1, r_gt, r_gt1, r_gt2, r_cat, r_cat1, r_cat2, r_cat3, r_sk, r_sk1, r_sk2, r_sk3, r_keys, r_keys1, r_items, r_items1, r_dcm, r_dcm1, r_dcm2, r_dcs, r_dcs1, r_dcs2, r_dcs3, r_dcs4, r_whl, r_dctB, v_rd_ro, r_var, r_glob, r_int, r_bl, r_non, r_str, r_tup, r_tup1, r_lst, r_lst0, r_lst1, r_dct, r_dct1, r_dct2, r_fn, r_bin, r_bin1, r_bin2, r_neg, r_neg1, r_not, r_not1, r_and, r_and1, r_or, r_or1, r_ite, r_ite1, r_kbl, r_cmp, r_cmp1, r_cmp2, r_chain, r_chain1, r_chain2, r_chain3, r_chain4, r_call, r_call1, r_prim, r_prim1, r_primB, r_primB1, r_new, r_sub, r_sub1, r_sub2, r_dsub, r_dsub1, r_dsub2, r_app, r_app1, r_app2, r_get, r_get1, r_get2, r_get3, r_frz, r_frz1, r_es0, r_es, r_es1, r_es2, r_ps0, r_ps, r_ps1, r_ps2, r_ps3, r_o0, r_o, r_o1, r_g0, r_g, r_g1, r_cut, r_cut0, r_cut1, r_cut2, r_comp, r_comp1, r_comp2, r_step, r_step1, r_step2, r_step3, r_walkL0, r_walkL, r_walkL1, r_seq, r_seq1, r_seq2, r_rng1, r_rng1a, r_rng2, r_rng2a, r_rng2b, r_in, r_zip, r_zip1, r_zip2, r_c, r_asg, r_asg1, r_nx, r_set, r_set1, r_set2, r_set3, r_st, r_expr, r_expr1, r_ret, r_ret1, r_if, r_if1, r_pass, r_ss0, r_ss, r_ss1, r_ss2, r_for, r_for1, r_fstep, r_for2, r_walkF0, r_walkF, r_walkF1, r_walkF2, v_rd_int, v_rd_bl, v_rd_str, v_rd_non, v_rd_tup, v_rd_lst, v_rd_dct, v_rR_int, v_rR_bl, v_rR_str, v_rR_non, v_rR_tup, v_rR_lst, v_rR_dct, v_rR_ro, v_rR_box, v_and, v_or, a_0, a_1, a_2, a_3, a_4, p_int, p_inti, p_lenl, p_lent, p_max, p_min, p_abs, p_all3, f_sd, f_w, p_isint, p_isinl, p_isini, p_isinb, p_isins, p_isinn, c_isn, c_isb, c_isi, c_iss, c_ist, c_isl, c_inl, c_int, b_add, b_sub, b_mul, b_mul0, b_mul1, b_w2, b_w3, v_rd_w, v_un_w, c_eqi, c_nei, c_eqs, c_lt, c_le, c_gt, c_ge, s_t, s_l, t_nm, t_tp, t_0, t_1, u_int, u_bl, u_str, u_non, u_tup, u_lst, u_0, u_1, u_s, l_5, l_4, l_3, l_2, l_1, l_0, n_0, n_1, n_2, n_3, n_4, n_5, n_6, n_7, n_8, n_9, n_10, n_11, n_12, m_0, m_1, m_2, m_3, m_4, m_5, m_6, m_7, m_8, m_9, m_10, m_11, m_12, m_13, m_14, m_15, m_16, i_23, eq_nn, eq_bb, eq_ll, beq_self_eq_true, isTy, fin_bl, fin_int, fin_tup, fin_lst, fin_nx, Option.bind_some, Option.map_some, List.map_cons, List.map_nil, List.length_cons, List.length_nil, List.replicate, List.getElem?_cons_zero, List.getElem?_cons_succ, List.set_cons_zero, List.set_cons_succ, List.cons_append, List.nil_append, List.append_nil, Nat.sub_self, List.take_length, Bool.false_eq_true, reduceIte, Bool.and_true, Bool.true_and, Bool.not_true, Bool.not_false, Bool.false_and, Bool.and_false, Nat.reduceSub, List.replicate_succ, List.replicate_zero, Nat.succ_sub_succ, decide_true, decide_false, Int.reduceEq, Int.reduceLT, Int.reduceLE, Int.reduceNeg, Int.reduceGT, gt_iff_lt, ge_iff_le, Bool.and_assoc, List.any_cons, List.any_nil, Bool.or_true, Bool.true_or, Bool.or_false, Bool.false_or], by simp, .inl ⟨hdue, _, rfl⟩⟩
    | cons x line =>
      right
      simp -implicitDefEqProofs only [List.isEmpty_cons, Bool.not_false] at hne
      refine ⟨by revert hne; generalize (x :: line).map enD = ln; intro hne; simp -implicitDefEqProofs only [hne, r_din, r_din1, r_din2, r_din3, r_pop, r_pop1, r_gt, r_gt1, r_gt2, r_cat, r_cat1, r_cat2, r_cat3, r_sk, r_sk1, r_sk2, r_sk3, r_keys, r_keys1, r_items, r_items1, r_dcm, r_dcm1, r_dcm2, r_dcs, r_dcs1, r_dcs2, r_dcs3, r_dcs4, r_whl, r_dctB, v_rd_ro, r_var, r_glob, r_int, r_bl, r_non, r_str, r_tup, r_tup1, r_lst, r_lst0, r_lst1, r_dct, r_dct1, r_dct2, r_fn, r_bin, r_bin1, r_bin2, r_neg, r_neg1, r_not, r_not1, r_and, r_and1, r_or, r_or1, r_ite, r_ite1, r_kbl, r_cmp, r_cmp1, r_cmp2, r_chain, r_chain1, r_chain2, r_chain3, r_chain4, r_call, r_call1, r_prim, r_prim1, r_primB, r_primB1, r_new, r_sub, r_sub1, r_sub2, r_dsub, r_dsub1, r_dsub2, r_app, r_app1, r_app2, r_get, r_get1, r_get2, r_get3, r_frz, r_frz1, r_es0, r_es, r_es1, r_es2, r_ps0, r_ps, r_ps1, r_ps2, r_ps3, r_o0, r_o, r_o1, r_g0, r_g, r_g1, r_cut, r_cut0, r_cut1, r_cut2, r_comp, r_comp1, r_comp2, r_step, r_step1, r_step2, r_step3, r_walkL0, r_walkL, r_walkL1, r_seq, r_seq1, r_seq2, r_rng1, r_rng1a, r_rng2, r_rng2a, r_rng2b, r_in, r_zip, r_zip1, r_zip2, r_c, r_asg, r_asg1, r_nx, r_set, r_set1, r_set2, r_set3, r_st, r_expr, r_expr1, r_ret, r_ret1, r_if, r_if1, r_pass, r_ss0, r_ss, r_ss1, r_ss2, r_for, r_for1, r_fstep, r_for2, r_walkF0, r_walkF, r_walkF1, r_walkF2, v_rd_int, v_rd_bl, v_rd_str, v_rd_non, v_rd_tup, v_rd_lst, v_rd_dct, v_rR_int, v_rR_bl, v_rR_str, v_rR_non, v_rR_tup, v_rR_lst, v_rR_dct, v_rR_ro, v_rR_box, v_and, v_or, a_0, a_1, a_2, a_3, a_4, p_int, p_inti, p_lenl, p_lent, p_max, p_min, p_abs, p_all3, f_sd, f_w, p_isint, p_isinl, p_isini, p_isinb, p_isins, p_isinn, c_isn, c_isb, c_isi, c_iss, c_ist, c_isl, c_inl, c_int, b_add, b_sub, b_mul, b_mul0, b_mul1, b_w2, b_w3, v_rd_w, v_un_w, c_eqi, c_nei, c_eqs, c_lt, c_le, c_gt, c_ge, s_t, s_l, t_nm, t_tp, t_0, t_1, u_int, u_bl, u_str, u_non, u_tup, u_lst, u_0, u_1, u_s, l_5, l_4, l_3, l_2, l_1, l_0, n_0, n_1, n_2, n_3, n_4, n_5, n_6, n_7, n_8, n_9, n_10, n_11, n_12, m_0, m_1, m_2, m_3, m_4, m_5, m_6, m_7, m_8, m_9, m_10, m_11, m_12, m_13, m_14, m_15, m_16, i_23, eq_nn, eq_bb, eq_ll, beq_self_eq_true, isTy, fin_bl, fin_int, fin_tup, fin_lst, fin_nx, Option.bind_some, Option.map_some, List.map_cons, List.map_nil, List.length_cons, List.length_nil, List.replicate, List.getElem?_cons_zero, List.getElem?_cons_succ, List.set_cons_zero, List.set_cons_succ, List.cons_append, List.nil_append, List.append_nil, Nat.sub_self, List.take_length, Bool.false_eq_true, reduceIte, Bool.and_true, Bool.true_and, Bool.not_true, Bool.not_false, Bool.false_and, Bool.and_false, Nat.reduceSub, List.replicate_succ, List.replicate_zero, Nat.succ_sub_succ, decide_true, decide_false, Int.reduceEq, Int.reduceLT, Int.reduceLE, Int.reduceNeg, Int.reduceGT, gt_iff_lt, ge_iff_le, Bool.and_assoc, List.any_cons, List.any_nil, Bool.or_true, Bool.true_or, Bool.or_false, Bool.false_or], ?_⟩
      have q0 : LwQ p n ((x :: line) ++ []) met := by rw [List.append_nil]; exact q
      rcases lrow_line fuel (k + 1) fuel st.length p hp st rfl (some (.lst ((x :: line).map enD))) (x :: line) n [] met junk x4 x5 x6 q0 (by simp) with ⟨row, st', h1, h2, h3⟩ | ⟨n', later', met', y4, y5, y6, h1, h2, h3, h4⟩
      · right
        refine ⟨rwD row, st', ?_, h2, .inr ⟨row, h1, rfl⟩⟩
        simp -implicitDefEqProofs only [f_law_shut_row_1] at h3
        generalize (x :: line).map enD = ln at h3
        simp -implicitDefEqProofs only [List.map_nil (f := enD)] at h3
        simp -implicitDefEqProofs only [f_law_shut_row_1, h3, r_din, r_din1, r_din2, r_din3, r_pop, r_pop1, r_gt, r_gt1, r_gt2, r_cat, r_cat1, r_cat2, r_cat3, r_sk, r_sk1, r_sk2, r_sk3, r_keys, r_keys1, r_items, r_items1, r_dcm, r_dcm1, r_dcm2, r_dcs, r_dcs1, r_dcs2, r_dcs3, r_dcs4, r_whl, r_dctB, v_rd_ro, r_var, r_glob, r_int, r_bl, r_non, r_str, r_tup, r_tup1, r_lst, r_lst0, r_lst1, r_dct, r_dct1, r_dct2, r_fn, r_bin, r_bin1, r_bin2, r_neg, r_neg1, r_not, r_not1, r_and, r_and1, r_or, r_or1, r_ite, r_ite1, r_kbl, r_cmp, r_cmp1, r_cmp2, r_chain, r_chain1, r_chain2, r_chain3, r_chain4, r_call, r_call1, r_prim, r_prim1, r_primB, r_primB1, r_new, r_sub, r_sub1, r_sub2, r_dsub, r_dsub1, r_dsub2, r_app, r_app1, r_app2, r_get, r_get1, r_get2, r_get3, r_frz, r_frz1, r_es0, r_es, r_es1, r_es2, r_ps0, r_ps, r_ps1, r_ps2, r_ps3, r_o0, r_o, r_o1, r_g0, r_g, r_g1, r_cut, r_cut0, r_cut1, r_cut2, r_comp, r_comp1, r_comp2, r_step, r_step1, r_step2, r_step3, r_walkL0, r_walkL, r_walkL1, r_seq, r_seq1, r_seq2, r_rng1, r_rng1a, r_rng2, r_rng2a, r_rng2b, r_in, r_zip, r_zip1, r_zip2, r_c, r_asg, r_asg1, r_nx, r_set, r_set1, r_set2, r_set3, r_st, r_expr, r_expr1, r_ret, r_ret1, r_if, r_if1, r_pass, r_ss0, r_ss, r_ss1, r_ss2, r_for, r_for1, r_fstep, r_for2, r_walkF0, r_walkF, r_walkF1, r_walkF2, v_rd_int, v_rd_bl, v_rd_str, v_rd_non, v_rd_tup, v_rd_lst, v_rd_dct, v_rR_int, v_rR_bl, v_rR_str, v_rR_non, v_rR_tup, v_rR_lst, v_rR_dct, v_rR_ro, v_rR_box, v_and, v_or, a_0, a_1, a_2, a_3, a_4, p_int, p_inti, p_lenl, p_lent, p_max, p_min, p_abs, p_all3, f_sd, f_w, p_isint, p_isinl, p_isini, p_isinb, p_isins, p_isinn, c_isn, c_isb, c_isi, c_iss, c_ist, c_isl, c_inl, c_int, b_add, b_sub, b_mul, b_mul0, b_mul1, b_w2, b_w3, v_rd_w, v_un_w, c_eqi, c_nei, c_eqs, c_lt, c_le, c_gt, c_ge, s_t, s_l, t_nm, t_tp, t_0, t_1, u_int, u_bl, u_str, u_non, u_tup, u_lst, u_0, u_1, u_s, l_5, l_4, l_3, l_2, l_1, l_0, n_0, n_1, n_2, n_3, n_4, n_5, n_6, n_7, n_8, n_9, n_10, n_11, n_12, m_0, m_1, m_2, m_3, m_4, m_5, m_6, m_7, m_8, m_9, m_10, m_11, m_12, m_13, m_14, m_15, m_16, i_23, eq_nn, eq_bb, eq_ll, beq_self_eq_true, isTy, fin_bl, fin_int, fin_tup, fin_lst, fin_nx, Option.bind_some, Option.map_some, List.map_cons, List.map_nil, List.length_cons, List.length_nil, List.replicate, List.getElem?_cons_zero, List.getElem?_cons_succ, List.set_cons_zero, List.set_cons_succ, List.cons_append, List.nil_append, List.append_nil, Nat.sub_self, List.take_length, Bool.false_eq_true, reduceIte, Bool.and_true, Bool.true_and, Bool.not_true, Bool.not_false, Bool.false_and, Bool.and_false, Nat.reduceSub, List.replicate_succ, List.replicate_zero, Nat.succ_sub_succ, decide_true, decide_false, Int.reduceEq, Int.reduceLT, Int.reduceLE, Int.reduceNeg, Int.reduceGT, gt_iff_lt, ge_iff_le, Bool.and_assoc, List.any_cons, List.any_nil, Bool.or_true, Bool.true_or, Bool.or_false, Bool.false_or]
      · left
        refine ⟨n', _, _, by simp -implicitDefEqProofs only [List.length_cons] at h1; omega, ?_, later', met', junk ++ [.dead], some (.box (st ++ mD met' :: junk).length), y4, y5, y6, h2, rfl, rfl⟩
        simp -implicitDefEqProofs only [f_law_shut_row_1] at h4
        generalize (x :: line).map enD = ln at h4
        have hz := frz_end (σ := st ++ mD met' :: junk) (ds := later'.map enD) (bs := st.length) (by simp)
        simp -implicitDefEqProofs only [List.map_nil (f := enD)] at h4
        have hap : (st ++ mD met' :: junk) ++ [B.dead] = st ++ mD met' :: (junk ++ [.dead]) := by simp
        simp -implicitDefEqProofs only [f_law_shut_row_1, h4, hz, hap, r_din, r_din1, r_din2, r_din3, r_pop, r_pop1, r_gt, r_gt1, r_gt2, r_cat, r_cat1, r_cat2, r_cat3, r_sk, r_sk1, r_sk2, r_sk3, r_keys, r_keys1, r_items, r_items1, r_dcm, r_dcm1, r_dcm2, r_dcs, r_dcs1, r_dcs2, r_dcs3, r_dcs4, r_whl, r_dctB, v_rd_ro, r_var, r_glob, r_int, r_bl, r_non, r_str, r_tup, r_tup1, r_lst, r_lst0, r_lst1, r_dct, r_dct1, r_dct2, r_fn, r_bin, r_bin1, r_bin2, r_neg, r_neg1, r_not, r_not1, r_and, r_and1, r_or, r_or1, r_ite, r_ite1, r_kbl, r_cmp, r_cmp1, r_cmp2, r_chain, r_chain1, r_chain2, r_chain3, r_chain4, r_call, r_call1, r_prim, r_prim1, r_primB, r_primB1, r_new, r_sub, r_sub1, r_sub2, r_dsub, r_dsub1, r_dsub2, r_app, r_app1, r_app2, r_get, r_get1, r_get2, r_get3, r_frz, r_frz1, r_es0, r_es, r_es1, r_es2, r_ps0, r_ps, r_ps1, r_ps2, r_ps3, r_o0, r_o, r_o1, r_g0, r_g, r_g1, r_cut, r_cut0, r_cut1, r_cut2, r_comp, r_comp1, r_comp2, r_step, r_step1, r_step2, r_step3, r_walkL0, r_walkL, r_walkL1, r_seq, r_seq1, r_seq2, r_rng1, r_rng1a, r_rng2, r_rng2a, r_rng2b, r_in, r_zip, r_zip1, r_zip2, r_c, r_asg, r_asg1, r_nx, r_set, r_set1, r_set2, r_set3, r_st, r_expr, r_expr1, r_ret, r_ret1, r_if, r_if1, r_pass, r_ss0, r_ss, r_ss1, r_ss2, r_for, r_for1, r_fstep, r_for2, r_walkF0, r_walkF, r_walkF1, r_walkF2, v_rd_int, v_rd_bl, v_rd_str, v_rd_non, v_rd_tup, v_rd_lst, v_rd_dct, v_rR_int, v_rR_bl, v_rR_str, v_rR_non, v_rR_tup, v_rR_lst, v_rR_dct, v_rR_ro, v_rR_box, v_and, v_or, a_0, a_1, a_2, a_3, a_4, p_int, p_inti, p_lenl, p_lent, p_max, p_min, p_abs, p_all3, f_sd, f_w, p_isint, p_isinl, p_isini, p_isinb, p_isins, p_isinn, c_isn, c_isb, c_isi, c_iss, c_ist, c_isl, c_inl, c_int, b_add, b_sub, b_mul, b_mul0, b_mul1, b_w2, b_w3, v_rd_w, v_un_w, c_eqi, c_nei, c_eqs, c_lt, c_le, c_gt, c_ge, s_t, s_l, t_nm, t_tp, t_0, t_1, u_int, u_bl, u_str, u_non, u_tup, u_lst, u_0, u_1, u_s, l_5, l_4, l_3, l_2, l_1, l_0, n_0, n_1, n_2, n_3, n_4, n_5, n_6, n_7, n_8, n_9, n_10, n_11, n_12, m_0, m_1, m_2, m_3, m_4, m_5, m_6, m_7, m_8, m_9, m_10, m_11, m_12, m_13, m_14, m_15, m_16, i_23, eq_nn, eq_bb, eq_ll, beq_self_eq_true, isTy, fin_bl, fin_int, fin_tup, fin_lst, fin_nx, Option.bind_some, Option.map_some, List.map_cons, List.map_nil, List.length_cons, List.length_nil, List.replicate, List.getElem?_cons_zero, List.getElem?_cons_succ, List.set_cons_zero, List.set_cons_succ, List.cons_append, List.nil_append, List.append_nil, Nat.sub_self, List.take_length, Bool.false_eq_true, reduceIte, Bool.and_true, Bool.true_and, Bool.not_true, Bool.not_false, Bool.false_and, Bool.and_false, Nat.reduceSub, List.replicate_succ, List.replicate_zero, Nat.succ_sub_succ, decide_true, decide_false, Int.reduceEq, Int.reduceLT, Int.reduceLE, Int.reduceNeg, Int.reduceGT, gt_iff_lt, ge_iff_le, Bool.and_assoc, List.any_cons, List.any_nil, Bool.or_true, Bool.true_or, Bool.or_false, Bool.false_or])
  have q0 : LwQ p 131080 [(first p, [])] [] := ⟨first_fu p, due_eq p, first_mts p hp, fun x hx => by
    have e : x = (first p, ([] : List Bool)) := by simpa using hx
    subst e
    exact Nat.le_refl _⟩
  obtain ⟨rr, st', ewl, htk, hres⟩ := wl 131080 fuel [some p.d, some (.lst ([(first p, ([] : List Bool))].map enD)), some (.box st.length), none, none, none, none] (st ++ mD [] :: []) (by omega) ⟨_, _, [], none, none, none, none, q0, rfl, rfl⟩
  have h0 : dmake true [] ([], []) = some (([] : List D), ([] : List D)) := rfl
  have h0' : B.dct true [] [] = mD [] := rfl
  have hen : D.lst [.tup [crD (first p), .tup []]] = .lst ([(first p, ([] : List Bool))].map enD) := rfl
  have ht : ∀ xs : List Stand, primD .tuple [.lst (xs.map Stand.d)] = some (crD xs) := fun _ => rfl
  have sw := sorted_ways p hp
  generalize [(first p, ([] : List Bool))].map enD = ln at ewl hen
  rw [call_eq (fn := f_law_shut_row) rfl rfl]
  simp -implicitDefEqProofs only [f_law_shut_row_1] at ewl
  rcases hres with ⟨hd, ρ, rfl⟩ | ⟨row, hd, rfl⟩
  · simp -implicitDefEqProofs only [f_law_shut_row, f_law_shut_row_x0, f_law_shut_row_x1, f_law_shut_row_x2, ew, rR_ways, sw, ht, h0, h0', hen, ewl, htk, hd, dueD, fin_non, r_din, r_din1, r_din2, r_din3, r_pop, r_pop1, r_gt, r_gt1, r_gt2, r_cat, r_cat1, r_cat2, r_cat3, r_sk, r_sk1, r_sk2, r_sk3, r_keys, r_keys1, r_items, r_items1, r_dcm, r_dcm1, r_dcm2, r_dcs, r_dcs1, r_dcs2, r_dcs3, r_dcs4, r_whl, r_dctB, v_rd_ro, r_var, r_glob, r_int, r_bl, r_non, r_str, r_tup, r_tup1, r_lst, r_lst0, r_lst1, r_dct, r_dct1, r_dct2, r_fn, r_bin, r_bin1, r_bin2, r_neg, r_neg1, r_not, r_not1, r_and, r_and1, r_or, r_or1, r_ite, r_ite1, r_kbl, r_cmp, r_cmp1, r_cmp2, r_chain, r_chain1, r_chain2, r_chain3, r_chain4, r_call, r_call1, r_prim, r_prim1, r_primB, r_primB1, r_new, r_sub, r_sub1, r_sub2, r_dsub, r_dsub1, r_dsub2, r_app, r_app1, r_app2, r_get, r_get1, r_get2, r_get3, r_frz, r_frz1, r_es0, r_es, r_es1, r_es2, r_ps0, r_ps, r_ps1, r_ps2, r_ps3, r_o0, r_o, r_o1, r_g0, r_g, r_g1, r_cut, r_cut0, r_cut1, r_cut2, r_comp, r_comp1, r_comp2, r_step, r_step1, r_step2, r_step3, r_walkL0, r_walkL, r_walkL1, r_seq, r_seq1, r_seq2, r_rng1, r_rng1a, r_rng2, r_rng2a, r_rng2b, r_in, r_zip, r_zip1, r_zip2, r_c, r_asg, r_asg1, r_nx, r_set, r_set1, r_set2, r_set3, r_st, r_expr, r_expr1, r_ret, r_ret1, r_if, r_if1, r_pass, r_ss0, r_ss, r_ss1, r_ss2, r_for, r_for1, r_fstep, r_for2, r_walkF0, r_walkF, r_walkF1, r_walkF2, v_rd_int, v_rd_bl, v_rd_str, v_rd_non, v_rd_tup, v_rd_lst, v_rd_dct, v_rR_int, v_rR_bl, v_rR_str, v_rR_non, v_rR_tup, v_rR_lst, v_rR_dct, v_rR_ro, v_rR_box, v_and, v_or, a_0, a_1, a_2, a_3, a_4, p_int, p_inti, p_lenl, p_lent, p_max, p_min, p_abs, p_all3, f_sd, f_w, p_isint, p_isinl, p_isini, p_isinb, p_isins, p_isinn, c_isn, c_isb, c_isi, c_iss, c_ist, c_isl, c_inl, c_int, b_add, b_sub, b_mul, b_mul0, b_mul1, b_w2, b_w3, v_rd_w, v_un_w, c_eqi, c_nei, c_eqs, c_lt, c_le, c_gt, c_ge, s_t, s_l, t_nm, t_tp, t_0, t_1, u_int, u_bl, u_str, u_non, u_tup, u_lst, u_0, u_1, u_s, l_5, l_4, l_3, l_2, l_1, l_0, n_0, n_1, n_2, n_3, n_4, n_5, n_6, n_7, n_8, n_9, n_10, n_11, n_12, m_0, m_1, m_2, m_3, m_4, m_5, m_6, m_7, m_8, m_9, m_10, m_11, m_12, m_13, m_14, m_15, m_16, i_23, eq_nn, eq_bb, eq_ll, beq_self_eq_true, isTy, fin_bl, fin_int, fin_tup, fin_lst, fin_nx, Option.bind_some, Option.map_some, List.map_cons, List.map_nil, List.length_cons, List.length_nil, List.replicate, List.getElem?_cons_zero, List.getElem?_cons_succ, List.set_cons_zero, List.set_cons_succ, List.cons_append, List.nil_append, List.append_nil, Nat.sub_self, List.take_length, Bool.false_eq_true, reduceIte, Bool.and_true, Bool.true_and, Bool.not_true, Bool.not_false, Bool.false_and, Bool.and_false, Nat.reduceSub, List.replicate_succ, List.replicate_zero, Nat.succ_sub_succ, decide_true, decide_false, Int.reduceEq, Int.reduceLT, Int.reduceLE, Int.reduceNeg, Int.reduceGT, gt_iff_lt, ge_iff_le, Bool.and_assoc, List.any_cons, List.any_nil, Bool.or_true, Bool.true_or, Bool.or_false, Bool.false_or]
  · simp -implicitDefEqProofs only [f_law_shut_row, f_law_shut_row_x0, f_law_shut_row_x1, f_law_shut_row_x2, ew, rR_ways, sw, ht, h0, h0', hen, ewl, htk, hd, dueD, rwD, u_row, r_din, r_din1, r_din2, r_din3, r_pop, r_pop1, r_gt, r_gt1, r_gt2, r_cat, r_cat1, r_cat2, r_cat3, r_sk, r_sk1, r_sk2, r_sk3, r_keys, r_keys1, r_items, r_items1, r_dcm, r_dcm1, r_dcm2, r_dcs, r_dcs1, r_dcs2, r_dcs3, r_dcs4, r_whl, r_dctB, v_rd_ro, r_var, r_glob, r_int, r_bl, r_non, r_str, r_tup, r_tup1, r_lst, r_lst0, r_lst1, r_dct, r_dct1, r_dct2, r_fn, r_bin, r_bin1, r_bin2, r_neg, r_neg1, r_not, r_not1, r_and, r_and1, r_or, r_or1, r_ite, r_ite1, r_kbl, r_cmp, r_cmp1, r_cmp2, r_chain, r_chain1, r_chain2, r_chain3, r_chain4, r_call, r_call1, r_prim, r_prim1, r_primB, r_primB1, r_new, r_sub, r_sub1, r_sub2, r_dsub, r_dsub1, r_dsub2, r_app, r_app1, r_app2, r_get, r_get1, r_get2, r_get3, r_frz, r_frz1, r_es0, r_es, r_es1, r_es2, r_ps0, r_ps, r_ps1, r_ps2, r_ps3, r_o0, r_o, r_o1, r_g0, r_g, r_g1, r_cut, r_cut0, r_cut1, r_cut2, r_comp, r_comp1, r_comp2, r_step, r_step1, r_step2, r_step3, r_walkL0, r_walkL, r_walkL1, r_seq, r_seq1, r_seq2, r_rng1, r_rng1a, r_rng2, r_rng2a, r_rng2b, r_in, r_zip, r_zip1, r_zip2, r_c, r_asg, r_asg1, r_nx, r_set, r_set1, r_set2, r_set3, r_st, r_expr, r_expr1, r_ret, r_ret1, r_if, r_if1, r_pass, r_ss0, r_ss, r_ss1, r_ss2, r_for, r_for1, r_fstep, r_for2, r_walkF0, r_walkF, r_walkF1, r_walkF2, v_rd_int, v_rd_bl, v_rd_str, v_rd_non, v_rd_tup, v_rd_lst, v_rd_dct, v_rR_int, v_rR_bl, v_rR_str, v_rR_non, v_rR_tup, v_rR_lst, v_rR_dct, v_rR_ro, v_rR_box, v_and, v_or, a_0, a_1, a_2, a_3, a_4, p_int, p_inti, p_lenl, p_lent, p_max, p_min, p_abs, p_all3, f_sd, f_w, p_isint, p_isinl, p_isini, p_isinb, p_isins, p_isinn, c_isn, c_isb, c_isi, c_iss, c_ist, c_isl, c_inl, c_int, b_add, b_sub, b_mul, b_mul0, b_mul1, b_w2, b_w3, v_rd_w, v_un_w, c_eqi, c_nei, c_eqs, c_lt, c_le, c_gt, c_ge, s_t, s_l, t_nm, t_tp, t_0, t_1, u_int, u_bl, u_str, u_non, u_tup, u_lst, u_0, u_1, u_s, l_5, l_4, l_3, l_2, l_1, l_0, n_0, n_1, n_2, n_3, n_4, n_5, n_6, n_7, n_8, n_9, n_10, n_11, n_12, m_0, m_1, m_2, m_3, m_4, m_5, m_6, m_7, m_8, m_9, m_10, m_11, m_12, m_13, m_14, m_15, m_16, i_23, eq_nn, eq_bb, eq_ll, beq_self_eq_true, isTy, fin_bl, fin_int, fin_tup, fin_lst, fin_nx, Option.bind_some, Option.map_some, List.map_cons, List.map_nil, List.length_cons, List.length_nil, List.replicate, List.getElem?_cons_zero, List.getElem?_cons_succ, List.set_cons_zero, List.set_cons_succ, List.cons_append, List.nil_append, List.append_nil, Nat.sub_self, List.take_length, Bool.false_eq_true, reduceIte, Bool.and_true, Bool.true_and, Bool.not_true, Bool.not_false, Bool.false_and, Bool.and_false, Nat.reduceSub, List.replicate_succ, List.replicate_zero, Nat.succ_sub_succ, decide_true, decide_false, Int.reduceEq, Int.reduceLT, Int.reduceLE, Int.reduceNeg, Int.reduceGT, gt_iff_lt, ge_iff_le, Bool.and_assoc, List.any_cons, List.any_nil, Bool.or_true, Bool.true_or, Bool.or_false, Bool.false_or]
/-- the spring stands at n -/
def SpAt (st : Store) (n : Nat) : Prop := n < st.length ∧ ∃ a b, Sp a b ∧ st[n]? = some (.lst [.int a, .int b])
theorem tk_eq {st st' : Store} (h : st'.length = st.length) : List.take st.length st' = st' := List.take_of_length_le (by omega)
theorem pk (fuel k : Nat) {n : Nat} {st : Store} (many : Int) (h : SpAt st n) (h0 : 0 < many) (h1 : many < 1000000000) : ∃ d st', 0 ≤ d ∧ d < many ∧ SpAt st' n ∧ st'.length = st.length ∧ evCall T fuel (k + 1) 17 [.box n, .int many] st = some (.int d, st') := by
  obtain ⟨hn, a, b, hp, hs⟩ := h
  obtain ⟨d, a', b', l, u, hp', e⟩ := ev_pick fuel k n a b many st hn hs hp h0 h1
  exact ⟨d, _, l, u, ⟨by simpa using hn, a', b', hp', at_set hn⟩, by simp, e⟩
theorem spring_sp (fuel k : Nat) (ns : List Int) (i : Int) (hi : 0 ≤ i) (st : Store) : ∃ st', SpAt st' st.length ∧ evCall T fuel (k + 1) 16 [.ro (ns.map .int), .int i] st = some (.box st.length, st') := by
  obtain ⟨a, b, hp, e⟩ := ev_spring fuel k ns i hi st
  exact ⟨_, ⟨by simp, a, b, hp, by simp⟩, e⟩
theorem plan_sp (fuel k : Nat) {n : Nat} {st : Store} (h : SpAt st n) : ∃ (p : Plan) (st' : Store), p.Ok ∧ SpAt st' n ∧ st'.length = st.length ∧ evCall T fuel (k + 3) 21 [.box n] st = some (p.d, st') := by
  obtain ⟨hn, a, b, hp, hs⟩ := h
  obtain ⟨p, a', b', ok, hp', e⟩ := ev_plan_of fuel k n a b st hn hs hp
  exact ⟨p, _, ok, ⟨by simpa using hn, a', b', hp', at_set hn⟩, by simp, e⟩
theorem program_sp (fuel k : Nat) {n : Nat} {st : Store} (lift : Int) (hl : 1 ≤ lift ∧ lift ≤ 3) (h : SpAt st n) : ∃ (p : Plan) (st' : Store), p.lift = lift ∧ p.Ok ∧ SpAt st' n ∧ st'.length = st.length ∧ evCall T fuel (k + 2) 20 [.box n] st = some (p.pd, st') := by
  obtain ⟨hn, a, b, hp, hs⟩ := h
  obtain ⟨p, a', b', e1, ok, hp', e⟩ := ev_program_of fuel k n a b lift st hl hn hs hp
  exact ⟨p, _, e1, ok, ⟨by simpa using hn, a', b', hp', at_set hn⟩, by simp, e⟩
theorem choice_sp (fuel k : Nat) {n : Nat} {st : Store} (h : SpAt st n) : ∃ (c : Choice) (st' : Store), SpAt st' n ∧ st'.length = st.length ∧ evCall T fuel (k + 2) 22 [.box n] st = some (Choice.d c, st') := by
  obtain ⟨d1, s1, l1, u1, h1, q1, e1⟩ := pk fuel k 3 h (by decide) (by decide)
  obtain ⟨d2, s2, l2, u2, h2, q2, e2⟩ := pk fuel k 4 h1 (by decide) (by decide)
  obtain ⟨d3, s3, l3, u3, h3, q3, e3⟩ := pk fuel k 8 h2 (by decide) (by decide)
  refine ⟨⟨decide (d1 = 0), decide (d2 = 0), decide (d3 = 0)⟩, s3, h3, by omega, ?_⟩
  rw [call_eq (fn := f_law_choice) rfl rfl]
  have tk := tk_eq (st := st) (st' := s3) (by omega)
  simp -implicitDefEqProofs only [f_law_choice, f_law_choice_x0, e1, e2, e3, tk, Choice.d, r_din, r_din1, r_din2, r_din3, r_pop, r_pop1, r_gt, r_gt1, r_gt2, r_cat, r_cat1, r_cat2, r_cat3, r_sk, r_sk1, r_sk2, r_sk3, r_keys, r_keys1, r_items, r_items1, r_dcm, r_dcm1, r_dcm2, r_dcs, r_dcs1, r_dcs2, r_dcs3, r_dcs4, r_whl, r_dctB, v_rd_ro, r_var, r_glob, r_int, r_bl, r_non, r_str, r_tup, r_tup1, r_lst, r_lst0, r_lst1, r_dct, r_dct1, r_dct2, r_fn, r_bin, r_bin1, r_bin2, r_neg, r_neg1, r_not, r_not1, r_and, r_and1, r_or, r_or1, r_ite, r_ite1, r_kbl, r_cmp, r_cmp1, r_cmp2, r_chain, r_chain1, r_chain2, r_chain3, r_chain4, r_call, r_call1, r_prim, r_prim1, r_primB, r_primB1, r_new, r_sub, r_sub1, r_sub2, r_dsub, r_dsub1, r_dsub2, r_app, r_app1, r_app2, r_get, r_get1, r_get2, r_get3, r_frz, r_frz1, r_es0, r_es, r_es1, r_es2, r_ps0, r_ps, r_ps1, r_ps2, r_ps3, r_o0, r_o, r_o1, r_g0, r_g, r_g1, r_cut, r_cut0, r_cut1, r_cut2, r_comp, r_comp1, r_comp2, r_step, r_step1, r_step2, r_step3, r_walkL0, r_walkL, r_walkL1, r_seq, r_seq1, r_seq2, r_rng1, r_rng1a, r_rng2, r_rng2a, r_rng2b, r_in, r_zip, r_zip1, r_zip2, r_c, r_asg, r_asg1, r_nx, r_set, r_set1, r_set2, r_set3, r_st, r_expr, r_expr1, r_ret, r_ret1, r_if, r_if1, r_pass, r_ss0, r_ss, r_ss1, r_ss2, r_for, r_for1, r_fstep, r_for2, r_walkF0, r_walkF, r_walkF1, r_walkF2, v_rd_int, v_rd_bl, v_rd_str, v_rd_non, v_rd_tup, v_rd_lst, v_rd_dct, v_rR_int, v_rR_bl, v_rR_str, v_rR_non, v_rR_tup, v_rR_lst, v_rR_dct, v_rR_ro, v_rR_box, v_and, v_or, a_0, a_1, a_2, a_3, a_4, p_int, p_inti, p_lenl, p_lent, p_max, p_min, p_abs, p_all3, f_sd, f_w, p_isint, p_isinl, p_isini, p_isinb, p_isins, p_isinn, c_isn, c_isb, c_isi, c_iss, c_ist, c_isl, c_inl, c_int, b_add, b_sub, b_mul, b_mul0, b_mul1, b_w2, b_w3, v_rd_w, v_un_w, c_eqi, c_nei, c_eqs, c_lt, c_le, c_gt, c_ge, s_t, s_l, t_nm, t_tp, t_0, t_1, u_int, u_bl, u_str, u_non, u_tup, u_lst, u_0, u_1, u_s, l_5, l_4, l_3, l_2, l_1, l_0, n_0, n_1, n_2, n_3, n_4, n_5, n_6, n_7, n_8, n_9, n_10, n_11, n_12, m_0, m_1, m_2, m_3, m_4, m_5, m_6, m_7, m_8, m_9, m_10, m_11, m_12, m_13, m_14, m_15, m_16, i_23, eq_nn, eq_bb, eq_ll, beq_self_eq_true, isTy, fin_bl, fin_int, fin_tup, fin_lst, fin_nx, Option.bind_some, Option.map_some, List.map_cons, List.map_nil, List.length_cons, List.length_nil, List.replicate, List.getElem?_cons_zero, List.getElem?_cons_succ, List.set_cons_zero, List.set_cons_succ, List.cons_append, List.nil_append, List.append_nil, Nat.sub_self, List.take_length, Bool.false_eq_true, reduceIte, Bool.and_true, Bool.true_and, Bool.not_true, Bool.not_false, Bool.false_and, Bool.and_false, Nat.reduceSub, List.replicate_succ, List.replicate_zero, Nat.succ_sub_succ, decide_true, decide_false, Int.reduceEq, Int.reduceLT, Int.reduceLE, Int.reduceNeg, Int.reduceGT, gt_iff_lt, ge_iff_le, Bool.and_assoc, List.any_cons, List.any_nil, Bool.or_true, Bool.true_or, Bool.or_false, Bool.false_or]
theorem reach_in (p : Plan) (hp : p.Ok) : ∀ (r : List Bool) (l : List Stand), l ∈ allC p → reach (led p) l r ∈ allC p
  | [], _, h => h
  | g :: r, l, h => reach_in p hp r (led p l g) (led_in p hp h g)
theorem k6_ticks (p : Plan) (hp : p.Ok) (n b fu : Nat) (x0 x1 x4 x5 x6 x7 x8 x11 : Option D) : ∀ (ds : List D) (st : Store) (r : List Bool) (x10 : Option D), SpAt st n →
    ∃ st' r' y10, SpAt st' n ∧ r'.length = r.length + ds.length ∧ walkF (fStep ⟨evCall T 200000 11, b, fu⟩ (.name 10) [.asg (.name 9) (.call 28 [.var 3, .var 9, .cmp .eq (.call 17 [.var 2, .int 2]) (.int 0)])]) ds [x0, x1, some (.box n), some p.d, x4, x5, x6, x7, x8, some (crD (reach (led p) (first p) r)), x10, x11] st =
      some (.nx [x0, x1, some (.box n), some p.d, x4, x5, x6, x7, x8, some (crD (reach (led p) (first p) r')), y10, x11], st')
  | [], st, r, x10, h => ⟨st, r, x10, h, rfl, rfl⟩
  | d :: ds, st, r, x10, h => by
    obtain ⟨d1, st1, l1, u1, h1, _, e1⟩ := pk 200000 10 2 h (by decide) (by decide)
    obtain ⟨st', r', y10, h2, hl, e2⟩ := k6_ticks p hp n b fu x0 x1 x4 x5 x6 x7 x8 x11 ds st1 (r ++ [decide (d1 = 0)]) (some d) h1
    refine ⟨st', r', y10, h2, by simp -implicitDefEqProofs only [List.length_append, List.length_cons, List.length_nil] at hl ⊢; omega, ?_⟩
    have e1' : evCall T 200000 11 17 [.box n, .int 2] st = some (.int d1, st1) := e1
    have cc := allC_cd p hp (reach_in p hp r _ (first_in p hp))
    have e3 : ∀ st, evCall T 200000 11 28 [p.d, crD (reach (led p) (first p) r), .bl (decide (d1 = 0))] st = some (crD (led p (reach (led p) (first p) r) (decide (d1 = 0))), st) := fun st => ev_law_led 200000 8 p hp _ cc _ st
    rw [reach_snoc] at e2
    rw [← e2]
    simp -implicitDefEqProofs only [e1', e3, r_din, r_din1, r_din2, r_din3, r_pop, r_pop1, r_gt, r_gt1, r_gt2, r_cat, r_cat1, r_cat2, r_cat3, r_sk, r_sk1, r_sk2, r_sk3, r_keys, r_keys1, r_items, r_items1, r_dcm, r_dcm1, r_dcm2, r_dcs, r_dcs1, r_dcs2, r_dcs3, r_dcs4, r_whl, r_dctB, v_rd_ro, r_var, r_glob, r_int, r_bl, r_non, r_str, r_tup, r_tup1, r_lst, r_lst0, r_lst1, r_dct, r_dct1, r_dct2, r_fn, r_bin, r_bin1, r_bin2, r_neg, r_neg1, r_not, r_not1, r_and, r_and1, r_or, r_or1, r_ite, r_ite1, r_kbl, r_cmp, r_cmp1, r_cmp2, r_chain, r_chain1, r_chain2, r_chain3, r_chain4, r_call, r_call1, r_prim, r_prim1, r_primB, r_primB1, r_new, r_sub, r_sub1, r_sub2, r_dsub, r_dsub1, r_dsub2, r_app, r_app1, r_app2, r_get, r_get1, r_get2, r_get3, r_frz, r_frz1, r_es0, r_es, r_es1, r_es2, r_ps0, r_ps, r_ps1, r_ps2, r_ps3, r_o0, r_o, r_o1, r_g0, r_g, r_g1, r_cut, r_cut0, r_cut1, r_cut2, r_comp, r_comp1, r_comp2, r_step, r_step1, r_step2, r_step3, r_walkL0, r_walkL, r_walkL1, r_seq, r_seq1, r_seq2, r_rng1, r_rng1a, r_rng2, r_rng2a, r_rng2b, r_in, r_zip, r_zip1, r_zip2, r_c, r_asg, r_asg1, r_nx, r_set, r_set1, r_set2, r_set3, r_st, r_expr, r_expr1, r_ret, r_ret1, r_if, r_if1, r_pass, r_ss0, r_ss, r_ss1, r_ss2, r_for, r_for1, r_fstep, r_for2, r_walkF0, r_walkF, r_walkF1, r_walkF2, v_rd_int, v_rd_bl, v_rd_str, v_rd_non, v_rd_tup, v_rd_lst, v_rd_dct, v_rR_int, v_rR_bl, v_rR_str, v_rR_non, v_rR_tup, v_rR_lst, v_rR_dct, v_rR_ro, v_rR_box, v_and, v_or, a_0, a_1, a_2, a_3, a_4, p_int, p_inti, p_lenl, p_lent, p_max, p_min, p_abs, p_all3, f_sd, f_w, p_isint, p_isinl, p_isini, p_isinb, p_isins, p_isinn, c_isn, c_isb, c_isi, c_iss, c_ist, c_isl, c_inl, c_int, b_add, b_sub, b_mul, b_mul0, b_mul1, b_w2, b_w3, v_rd_w, v_un_w, c_eqi, c_nei, c_eqs, c_lt, c_le, c_gt, c_ge, s_t, s_l, t_nm, t_tp, t_0, t_1, u_int, u_bl, u_str, u_non, u_tup, u_lst, u_0, u_1, u_s, l_5, l_4, l_3, l_2, l_1, l_0, n_0, n_1, n_2, n_3, n_4, n_5, n_6, n_7, n_8, n_9, n_10, n_11, n_12, m_0, m_1, m_2, m_3, m_4, m_5, m_6, m_7, m_8, m_9, m_10, m_11, m_12, m_13, m_14, m_15, m_16, i_23, eq_nn, eq_bb, eq_ll, beq_self_eq_true, isTy, fin_bl, fin_int, fin_tup, fin_lst, fin_nx, Option.bind_some, Option.map_some, List.map_cons, List.map_nil, List.length_cons, List.length_nil, List.replicate, List.getElem?_cons_zero, List.getElem?_cons_succ, List.set_cons_zero, List.set_cons_succ, List.cons_append, List.nil_append, List.append_nil, Nat.sub_self, List.take_length, Bool.false_eq_true, reduceIte, Bool.and_true, Bool.true_and, Bool.not_true, Bool.not_false, Bool.false_and, Bool.and_false, Nat.reduceSub, List.replicate_succ, List.replicate_zero, Nat.succ_sub_succ, decide_true, decide_false, Int.reduceEq, Int.reduceLT, Int.reduceLE, Int.reduceNeg, Int.reduceGT, gt_iff_lt, ge_iff_le, Bool.and_assoc, List.any_cons, List.any_nil, Bool.or_true, Bool.true_or, Bool.or_false, Bool.false_or]
theorem k6_turn (p : Plan) (hp : p.Ok) (n b : Nat) (m : Int) (hm : 0 < m ∧ m ≤ 70000) (hno : ∀ r : List Bool, (r.length : Int) < m → shut (reach (led p) (first p) r) = false) (x0 x1 x7 x8 : Option D) (x4 : Int) (h4 : (if x4 > 1 then x4 else 1) = m) : ∀ (ds : List D) (st : Store) (x5 x6 x9 x10 x11 : Option D), SpAt st n →
    ∃ st' y5 y9 y10, SpAt st' n ∧ walkF (fStep ⟨evCall T 200000 11, b, 200000⟩ (.name 5) (match f_law_0 with | .for_ _ _ [_, _, _, _, _, .for_ _ _ bd, _] :: _ => bd | _ => [])) ds [x0, x1, some (.box n), some p.d, some (.int x4), x5, x6, x7, x8, x9, x10, x11] st =
      some (.nx [x0, x1, some (.box n), some p.d, some (.int x4), y5, x6, x7, x8, y9, y10, x11], st')
  | [], st, x5, x6, x9, x10, x11, h => ⟨st, x5, x9, x10, h, rfl⟩
  | d :: ds, st, x5, x6, x9, x10, x11, h => by
    obtain ⟨d1, st1, l1, u1, h1, _, e1⟩ := pk 200000 10 m h hm.1 (by omega)
    obtain ⟨dt, hrt⟩ := rng_ok2 (lo := 0) (hi := d1) (by omega) (by omega)
    have hlen := rng_len hrt
    obtain ⟨st2, r, y10, h2, hl, e2⟩ := k6_ticks p hp n b 200000 x0 x1 (some (.int x4)) (some d) x6 x7 x8 x11 dt st1 [] x10 h1
    have hns := hno r (by rw [hl, hlen]; simp -implicitDefEqProofs only [List.length_nil]; omega)
    obtain ⟨st3, z5, z9, z10, h3, e3⟩ := k6_turn p hp n b m hm hno x0 x1 x7 x8 x4 h4 ds st2 (some d) x6 (some (crD (reach (led p) (first p) r))) y10 x11 h2
    refine ⟨st3, z5, z9, z10, h3, ?_⟩
    have e1' : evCall T 200000 11 17 [.box n, .int m] st = some (.int d1, st1) := e1
    have ew : ∀ st, evCall T 200000 11 27 [p.d] st = some (waysD (ways p), st) := fun st => ev_law_ways 200000 7 (by decide) p hp st
    have sw := sorted_ways p hp
    have ht : ∀ xs : List Stand, primD .tuple [.lst (xs.map Stand.d)] = some (crD xs) := fun _ => rfl
    have cc := allC_cd p hp (reach_in p hp r _ (first_in p hp))
    have es : ∀ st, evCall T 200000 11 29 [crD (reach (led p) (first p) r)] st = some (.bl (shut (reach (led p) (first p) r)), st) := fun st => ev_law_is_shut 200000 10 _ (cc.few hp) st
    have r0 : reach (led p) (first p) [] = first p := rfl
    rw [r0] at e2
    simp -implicitDefEqProofs only [f_law_0] at e3
    simp -implicitDefEqProofs only [f_law_0, ew, rR_ways, sw, ht, h4, gt_iff_lt, e1', hrt, e2, es, hns, e3, r_din, r_din1, r_din2, r_din3, r_pop, r_pop1, r_gt, r_gt1, r_gt2, r_cat, r_cat1, r_cat2, r_cat3, r_sk, r_sk1, r_sk2, r_sk3, r_keys, r_keys1, r_items, r_items1, r_dcm, r_dcm1, r_dcm2, r_dcs, r_dcs1, r_dcs2, r_dcs3, r_dcs4, r_whl, r_dctB, v_rd_ro, r_var, r_glob, r_int, r_bl, r_non, r_str, r_tup, r_tup1, r_lst, r_lst0, r_lst1, r_dct, r_dct1, r_dct2, r_fn, r_bin, r_bin1, r_bin2, r_neg, r_neg1, r_not, r_not1, r_and, r_and1, r_or, r_or1, r_ite, r_ite1, r_kbl, r_cmp, r_cmp1, r_cmp2, r_chain, r_chain1, r_chain2, r_chain3, r_chain4, r_call, r_call1, r_prim, r_prim1, r_primB, r_primB1, r_new, r_sub, r_sub1, r_sub2, r_dsub, r_dsub1, r_dsub2, r_app, r_app1, r_app2, r_get, r_get1, r_get2, r_get3, r_frz, r_frz1, r_es0, r_es, r_es1, r_es2, r_ps0, r_ps, r_ps1, r_ps2, r_ps3, r_o0, r_o, r_o1, r_g0, r_g, r_g1, r_cut, r_cut0, r_cut1, r_cut2, r_comp, r_comp1, r_comp2, r_step, r_step1, r_step2, r_step3, r_walkL0, r_walkL, r_walkL1, r_seq, r_seq1, r_seq2, r_rng1, r_rng1a, r_rng2, r_rng2a, r_rng2b, r_in, r_zip, r_zip1, r_zip2, r_c, r_asg, r_asg1, r_nx, r_set, r_set1, r_set2, r_set3, r_st, r_expr, r_expr1, r_ret, r_ret1, r_if, r_if1, r_pass, r_ss0, r_ss, r_ss1, r_ss2, r_for, r_for1, r_fstep, r_for2, r_walkF0, r_walkF, r_walkF1, r_walkF2, v_rd_int, v_rd_bl, v_rd_str, v_rd_non, v_rd_tup, v_rd_lst, v_rd_dct, v_rR_int, v_rR_bl, v_rR_str, v_rR_non, v_rR_tup, v_rR_lst, v_rR_dct, v_rR_ro, v_rR_box, v_and, v_or, a_0, a_1, a_2, a_3, a_4, p_int, p_inti, p_lenl, p_lent, p_max, p_min, p_abs, p_all3, f_sd, f_w, p_isint, p_isinl, p_isini, p_isinb, p_isins, p_isinn, c_isn, c_isb, c_isi, c_iss, c_ist, c_isl, c_inl, c_int, b_add, b_sub, b_mul, b_mul0, b_mul1, b_w2, b_w3, v_rd_w, v_un_w, c_eqi, c_nei, c_eqs, c_lt, c_le, c_gt, c_ge, s_t, s_l, t_nm, t_tp, t_0, t_1, u_int, u_bl, u_str, u_non, u_tup, u_lst, u_0, u_1, u_s, l_5, l_4, l_3, l_2, l_1, l_0, n_0, n_1, n_2, n_3, n_4, n_5, n_6, n_7, n_8, n_9, n_10, n_11, n_12, m_0, m_1, m_2, m_3, m_4, m_5, m_6, m_7, m_8, m_9, m_10, m_11, m_12, m_13, m_14, m_15, m_16, i_23, eq_nn, eq_bb, eq_ll, beq_self_eq_true, isTy, fin_bl, fin_int, fin_tup, fin_lst, fin_nx, Option.bind_some, Option.map_some, List.map_cons, List.map_nil, List.length_cons, List.length_nil, List.replicate, List.getElem?_cons_zero, List.getElem?_cons_succ, List.set_cons_zero, List.set_cons_succ, List.cons_append, List.nil_append, List.append_nil, Nat.sub_self, List.take_length, Bool.false_eq_true, reduceIte, Bool.and_true, Bool.true_and, Bool.not_true, Bool.not_false, Bool.false_and, Bool.and_false, Nat.reduceSub, List.replicate_succ, List.replicate_zero, Nat.succ_sub_succ, decide_true, decide_false, Int.reduceEq, Int.reduceLT, Int.reduceLE, Int.reduceNeg, Int.reduceGT, gt_iff_lt, ge_iff_le, Bool.and_assoc, List.any_cons, List.any_nil, Bool.or_true, Bool.true_or, Bool.or_false, Bool.false_or]
theorem k6_press (p : Plan) (hp : p.Ok) (b fu : Nat) (x0 x1 x2 x4 x5 x7 x8 x9 x10 : Option D) : ∀ (r : List Bool) (s : Stand) (st : Store) (x11 : Option D), Fits p s →
    ∃ y11, walkF (fStep ⟨evCall T 200000 11, b, fu⟩ (.name 11) [.asg (.name 6) (.sub (.call 24 [.var 3, .var 6, .tup [.var 11, .bl false, .bl false]]) (.int 0))]) (r.map D.bl) [x0, x1, x2, some p.d, x4, x5, some s.d, x7, x8, x9, x10, x11] st =
      some (.nx [x0, x1, x2, some p.d, x4, x5, some (alone p s r).d, x7, x8, x9, x10, y11], st)
  | [], s, st, x11, h => ⟨x11, rfl⟩
  | g :: r, s, st, x11, h => by
    obtain ⟨y11, e⟩ := k6_press p hp b fu x0 x1 x2 x4 x5 x7 x8 x9 x10 r (nxS p s ⟨g, false, false⟩) st (some (.bl g)) (fits_passed p hp s _ h)
    refine ⟨y11, ?_⟩
    have e1 : ∀ st, evCall T 200000 11 24 [p.d, s.d, .tup [.bl g, .bl false, .bl false]] st = some (.tup [(nxS p s ⟨g, false, false⟩).d, words (passed p s ⟨g, false, false⟩).2], st) := fun st => by
      have e := ev_tick 200000 9 p s ⟨g, false, false⟩ st
      rw [tick_eq p s _ hp h] at e
      exact e
    have ha : alone p s (g :: r) = alone p (nxS p s ⟨g, false, false⟩) r := rfl
    rw [ha, ← e]
    simp -implicitDefEqProofs only [List.map_cons (f := D.bl), e1, r_din, r_din1, r_din2, r_din3, r_pop, r_pop1, r_gt, r_gt1, r_gt2, r_cat, r_cat1, r_cat2, r_cat3, r_sk, r_sk1, r_sk2, r_sk3, r_keys, r_keys1, r_items, r_items1, r_dcm, r_dcm1, r_dcm2, r_dcs, r_dcs1, r_dcs2, r_dcs3, r_dcs4, r_whl, r_dctB, v_rd_ro, r_var, r_glob, r_int, r_bl, r_non, r_str, r_tup, r_tup1, r_lst, r_lst0, r_lst1, r_dct, r_dct1, r_dct2, r_fn, r_bin, r_bin1, r_bin2, r_neg, r_neg1, r_not, r_not1, r_and, r_and1, r_or, r_or1, r_ite, r_ite1, r_kbl, r_cmp, r_cmp1, r_cmp2, r_chain, r_chain1, r_chain2, r_chain3, r_chain4, r_call, r_call1, r_prim, r_prim1, r_primB, r_primB1, r_new, r_sub, r_sub1, r_sub2, r_dsub, r_dsub1, r_dsub2, r_app, r_app1, r_app2, r_get, r_get1, r_get2, r_get3, r_frz, r_frz1, r_es0, r_es, r_es1, r_es2, r_ps0, r_ps, r_ps1, r_ps2, r_ps3, r_o0, r_o, r_o1, r_g0, r_g, r_g1, r_cut, r_cut0, r_cut1, r_cut2, r_comp, r_comp1, r_comp2, r_step, r_step1, r_step2, r_step3, r_walkL0, r_walkL, r_walkL1, r_seq, r_seq1, r_seq2, r_rng1, r_rng1a, r_rng2, r_rng2a, r_rng2b, r_in, r_zip, r_zip1, r_zip2, r_c, r_asg, r_asg1, r_nx, r_set, r_set1, r_set2, r_set3, r_st, r_expr, r_expr1, r_ret, r_ret1, r_if, r_if1, r_pass, r_ss0, r_ss, r_ss1, r_ss2, r_for, r_for1, r_fstep, r_for2, r_walkF0, r_walkF, r_walkF1, r_walkF2, v_rd_int, v_rd_bl, v_rd_str, v_rd_non, v_rd_tup, v_rd_lst, v_rd_dct, v_rR_int, v_rR_bl, v_rR_str, v_rR_non, v_rR_tup, v_rR_lst, v_rR_dct, v_rR_ro, v_rR_box, v_and, v_or, a_0, a_1, a_2, a_3, a_4, p_int, p_inti, p_lenl, p_lent, p_max, p_min, p_abs, p_all3, f_sd, f_w, p_isint, p_isinl, p_isini, p_isinb, p_isins, p_isinn, c_isn, c_isb, c_isi, c_iss, c_ist, c_isl, c_inl, c_int, b_add, b_sub, b_mul, b_mul0, b_mul1, b_w2, b_w3, v_rd_w, v_un_w, c_eqi, c_nei, c_eqs, c_lt, c_le, c_gt, c_ge, s_t, s_l, t_nm, t_tp, t_0, t_1, u_int, u_bl, u_str, u_non, u_tup, u_lst, u_0, u_1, u_s, l_5, l_4, l_3, l_2, l_1, l_0, n_0, n_1, n_2, n_3, n_4, n_5, n_6, n_7, n_8, n_9, n_10, n_11, n_12, m_0, m_1, m_2, m_3, m_4, m_5, m_6, m_7, m_8, m_9, m_10, m_11, m_12, m_13, m_14, m_15, m_16, i_23, eq_nn, eq_bb, eq_ll, beq_self_eq_true, isTy, fin_bl, fin_int, fin_tup, fin_lst, fin_nx, Option.bind_some, Option.map_some, List.map_cons, List.map_nil, List.length_cons, List.length_nil, List.replicate, List.getElem?_cons_zero, List.getElem?_cons_succ, List.set_cons_zero, List.set_cons_succ, List.cons_append, List.nil_append, List.append_nil, Nat.sub_self, List.take_length, Bool.false_eq_true, reduceIte, Bool.and_true, Bool.true_and, Bool.not_true, Bool.not_false, Bool.false_and, Bool.and_false, Nat.reduceSub, List.replicate_succ, List.replicate_zero, Nat.succ_sub_succ, decide_true, decide_false, Int.reduceEq, Int.reduceLT, Int.reduceLE, Int.reduceNeg, Int.reduceGT, gt_iff_lt, ge_iff_le, Bool.and_assoc, List.any_cons, List.any_nil, Bool.or_true, Bool.true_or, Bool.or_false, Bool.false_or]
theorem alone_fits (p : Plan) (hp : p.Ok) : ∀ (r : List Bool) (s : Stand), Fits p s → Fits p (alone p s r)
  | [], _, h => h
  | g :: r, s, h => alone_fits p hp r _ (fits_passed p hp s _ h)
theorem k6_stand (p : Plan) (hp : p.Ok) (b : Nat) (x0 x1 x2 x4 x5 x8 x9 x10 : Option D) : ∀ (l : List Stand) (st : Store) (x6 x11 : Option D), (∀ s ∈ l, Fits p s ∧ s ∈ first p) →
    ∃ y6 y11, walkF (fStep ⟨evCall T 200000 11, b, 200000⟩ (.name 6) (match f_law_0 with | .for_ _ _ [_, _, _, _, _, _, .for_ _ _ bd] :: _ => bd | _ => [])) (l.map Stand.d) [x0, x1, x2, some p.d, x4, x5, x6, some (dueD (dueRow p)), x8, x9, x10, x11] st =
      some (.nx [x0, x1, x2, some p.d, x4, x5, y6, some (dueD (dueRow p)), x8, x9, x10, y11], st)
  | [], st, x6, x11, _ => ⟨x6, x11, rfl⟩
  | s :: l, st, x6, x11, h => by
    have hs := h s List.mem_cons_self
    cases hd : dueRow p with
    | none =>
      obtain ⟨y6, y11, ih⟩ := k6_stand p hp b x0 x1 x2 x4 x5 x8 x9 x10 l st (some s.d) x11 (fun s hs' => h s (List.mem_cons_of_mem _ hs'))
      rw [hd] at ih
      refine ⟨y6, y11, ?_⟩
      have nn : cmpD .isnot .non .non = some false := rfl
      simp -implicitDefEqProofs only [f_law_0, dueD] at ih
      simp -implicitDefEqProofs only [f_law_0, dueD, List.map_cons (f := Stand.d), nn, ih, r_din, r_din1, r_din2, r_din3, r_pop, r_pop1, r_gt, r_gt1, r_gt2, r_cat, r_cat1, r_cat2, r_cat3, r_sk, r_sk1, r_sk2, r_sk3, r_keys, r_keys1, r_items, r_items1, r_dcm, r_dcm1, r_dcm2, r_dcs, r_dcs1, r_dcs2, r_dcs3, r_dcs4, r_whl, r_dctB, v_rd_ro, r_var, r_glob, r_int, r_bl, r_non, r_str, r_tup, r_tup1, r_lst, r_lst0, r_lst1, r_dct, r_dct1, r_dct2, r_fn, r_bin, r_bin1, r_bin2, r_neg, r_neg1, r_not, r_not1, r_and, r_and1, r_or, r_or1, r_ite, r_ite1, r_kbl, r_cmp, r_cmp1, r_cmp2, r_chain, r_chain1, r_chain2, r_chain3, r_chain4, r_call, r_call1, r_prim, r_prim1, r_primB, r_primB1, r_new, r_sub, r_sub1, r_sub2, r_dsub, r_dsub1, r_dsub2, r_app, r_app1, r_app2, r_get, r_get1, r_get2, r_get3, r_frz, r_frz1, r_es0, r_es, r_es1, r_es2, r_ps0, r_ps, r_ps1, r_ps2, r_ps3, r_o0, r_o, r_o1, r_g0, r_g, r_g1, r_cut, r_cut0, r_cut1, r_cut2, r_comp, r_comp1, r_comp2, r_step, r_step1, r_step2, r_step3, r_walkL0, r_walkL, r_walkL1, r_seq, r_seq1, r_seq2, r_rng1, r_rng1a, r_rng2, r_rng2a, r_rng2b, r_in, r_zip, r_zip1, r_zip2, r_c, r_asg, r_asg1, r_nx, r_set, r_set1, r_set2, r_set3, r_st, r_expr, r_expr1, r_ret, r_ret1, r_if, r_if1, r_pass, r_ss0, r_ss, r_ss1, r_ss2, r_for, r_for1, r_fstep, r_for2, r_walkF0, r_walkF, r_walkF1, r_walkF2, v_rd_int, v_rd_bl, v_rd_str, v_rd_non, v_rd_tup, v_rd_lst, v_rd_dct, v_rR_int, v_rR_bl, v_rR_str, v_rR_non, v_rR_tup, v_rR_lst, v_rR_dct, v_rR_ro, v_rR_box, v_and, v_or, a_0, a_1, a_2, a_3, a_4, p_int, p_inti, p_lenl, p_lent, p_max, p_min, p_abs, p_all3, f_sd, f_w, p_isint, p_isinl, p_isini, p_isinb, p_isins, p_isinn, c_isn, c_isb, c_isi, c_iss, c_ist, c_isl, c_inl, c_int, b_add, b_sub, b_mul, b_mul0, b_mul1, b_w2, b_w3, v_rd_w, v_un_w, c_eqi, c_nei, c_eqs, c_lt, c_le, c_gt, c_ge, s_t, s_l, t_nm, t_tp, t_0, t_1, u_int, u_bl, u_str, u_non, u_tup, u_lst, u_0, u_1, u_s, l_5, l_4, l_3, l_2, l_1, l_0, n_0, n_1, n_2, n_3, n_4, n_5, n_6, n_7, n_8, n_9, n_10, n_11, n_12, m_0, m_1, m_2, m_3, m_4, m_5, m_6, m_7, m_8, m_9, m_10, m_11, m_12, m_13, m_14, m_15, m_16, i_23, eq_nn, eq_bb, eq_ll, beq_self_eq_true, isTy, fin_bl, fin_int, fin_tup, fin_lst, fin_nx, Option.bind_some, Option.map_some, List.map_cons, List.map_nil, List.length_cons, List.length_nil, List.replicate, List.getElem?_cons_zero, List.getElem?_cons_succ, List.set_cons_zero, List.set_cons_succ, List.cons_append, List.nil_append, List.append_nil, Nat.sub_self, List.take_length, Bool.false_eq_true, reduceIte, Bool.and_true, Bool.true_and, Bool.not_true, Bool.not_false, Bool.false_and, Bool.and_false, Nat.reduceSub, List.replicate_succ, List.replicate_zero, Nat.succ_sub_succ, decide_true, decide_false, Int.reduceEq, Int.reduceLT, Int.reduceLE, Int.reduceNeg, Int.reduceGT, gt_iff_lt, ge_iff_le, Bool.and_assoc, List.any_cons, List.any_nil, Bool.or_true, Bool.true_or, Bool.or_false, Bool.false_or]
    | some r =>
      obtain ⟨z11, e1⟩ := k6_press p hp b 200000 x0 x1 x2 x4 x5 (some (rwD r)) x8 x9 x10 r s st x11 hs.1
      obtain ⟨y6, y11, ih⟩ := k6_stand p hp b x0 x1 x2 x4 x5 x8 x9 x10 l st (some (alone p s r).d) z11 (fun s hs' => h s (List.mem_cons_of_mem _ hs'))
      rw [hd] at ih
      refine ⟨y6, y11, ?_⟩
      have hsh : shut (reach (led p) (first p) r) = true := by
        have := due_ok p hp
        rw [hd] at this
        exact this.1
      have hz := List.all_eq_true.mp hsh _ (alone_in p r (first p) s hs.2)
      simp -implicitDefEqProofs only [Bool.and_eq_true, decide_eq_true_eq] at hz
      have nn : cmpD .isnot (rwD r) .non = some true := rfl
      have hc : ∀ st : Store, kCut st (alone p s r).d none (some 2) = some (.tup [.int 0, .int 0], st) := fun st => by
        have : kCut st (alone p s r).d none (some 2) = some (.tup [.int (alone p s r).h, .int (alone p s r).m], st) := rfl
        rw [this, hz.1, hz.2]
      have hne : cmpD .ne (.tup [.int 0, .int 0]) (.tup [.int 0, .int 0]) = some false := rfl
      have hq : kSeq (rwD r, st) = some ((r.map D.bl, none), st) := rfl
      have hrd : ∀ st : Store, rd st (rwD r) = rwD r := fun _ => rfl
      simp -implicitDefEqProofs only [f_law_0, dueD] at ih
      simp -implicitDefEqProofs only [f_law_0, dueD, List.map_cons (f := Stand.d), nn, hrd, hq, e1, hc, hne, ih, r_din, r_din1, r_din2, r_din3, r_pop, r_pop1, r_gt, r_gt1, r_gt2, r_cat, r_cat1, r_cat2, r_cat3, r_sk, r_sk1, r_sk2, r_sk3, r_keys, r_keys1, r_items, r_items1, r_dcm, r_dcm1, r_dcm2, r_dcs, r_dcs1, r_dcs2, r_dcs3, r_dcs4, r_whl, r_dctB, v_rd_ro, r_var, r_glob, r_int, r_bl, r_non, r_str, r_tup, r_tup1, r_lst, r_lst0, r_lst1, r_dct, r_dct1, r_dct2, r_fn, r_bin, r_bin1, r_bin2, r_neg, r_neg1, r_not, r_not1, r_and, r_and1, r_or, r_or1, r_ite, r_ite1, r_kbl, r_cmp, r_cmp1, r_cmp2, r_chain, r_chain1, r_chain2, r_chain3, r_chain4, r_call, r_call1, r_prim, r_prim1, r_primB, r_primB1, r_new, r_sub, r_sub1, r_sub2, r_dsub, r_dsub1, r_dsub2, r_app, r_app1, r_app2, r_get, r_get1, r_get2, r_get3, r_frz, r_frz1, r_es0, r_es, r_es1, r_es2, r_ps0, r_ps, r_ps1, r_ps2, r_ps3, r_o0, r_o, r_o1, r_g0, r_g, r_g1, r_cut, r_cut0, r_cut1, r_cut2, r_comp, r_comp1, r_comp2, r_step, r_step1, r_step2, r_step3, r_walkL0, r_walkL, r_walkL1, r_seq, r_seq1, r_seq2, r_rng1, r_rng1a, r_rng2, r_rng2a, r_rng2b, r_in, r_zip, r_zip1, r_zip2, r_c, r_asg, r_asg1, r_nx, r_set, r_set1, r_set2, r_set3, r_st, r_expr, r_expr1, r_ret, r_ret1, r_if, r_if1, r_pass, r_ss0, r_ss, r_ss1, r_ss2, r_for, r_for1, r_fstep, r_for2, r_walkF0, r_walkF, r_walkF1, r_walkF2, v_rd_int, v_rd_bl, v_rd_str, v_rd_non, v_rd_tup, v_rd_lst, v_rd_dct, v_rR_int, v_rR_bl, v_rR_str, v_rR_non, v_rR_tup, v_rR_lst, v_rR_dct, v_rR_ro, v_rR_box, v_and, v_or, a_0, a_1, a_2, a_3, a_4, p_int, p_inti, p_lenl, p_lent, p_max, p_min, p_abs, p_all3, f_sd, f_w, p_isint, p_isinl, p_isini, p_isinb, p_isins, p_isinn, c_isn, c_isb, c_isi, c_iss, c_ist, c_isl, c_inl, c_int, b_add, b_sub, b_mul, b_mul0, b_mul1, b_w2, b_w3, v_rd_w, v_un_w, c_eqi, c_nei, c_eqs, c_lt, c_le, c_gt, c_ge, s_t, s_l, t_nm, t_tp, t_0, t_1, u_int, u_bl, u_str, u_non, u_tup, u_lst, u_0, u_1, u_s, l_5, l_4, l_3, l_2, l_1, l_0, n_0, n_1, n_2, n_3, n_4, n_5, n_6, n_7, n_8, n_9, n_10, n_11, n_12, m_0, m_1, m_2, m_3, m_4, m_5, m_6, m_7, m_8, m_9, m_10, m_11, m_12, m_13, m_14, m_15, m_16, i_23, eq_nn, eq_bb, eq_ll, beq_self_eq_true, isTy, fin_bl, fin_int, fin_tup, fin_lst, fin_nx, Option.bind_some, Option.map_some, List.map_cons, List.map_nil, List.length_cons, List.length_nil, List.replicate, List.getElem?_cons_zero, List.getElem?_cons_succ, List.set_cons_zero, List.set_cons_succ, List.cons_append, List.nil_append, List.append_nil, Nat.sub_self, List.take_length, Bool.false_eq_true, reduceIte, Bool.and_true, Bool.true_and, Bool.not_true, Bool.not_false, Bool.false_and, Bool.and_false, Nat.reduceSub, List.replicate_succ, List.replicate_zero, Nat.succ_sub_succ, decide_true, decide_false, Int.reduceEq, Int.reduceLT, Int.reduceLE, Int.reduceNeg, Int.reduceGT, gt_iff_lt, ge_iff_le, Bool.and_assoc, List.any_cons, List.any_nil, Bool.or_true, Bool.true_or, Bool.or_false, Bool.false_or]
theorem pl_due (d : Option (List Bool)) : D.pl 2 (dueD d) = true := by
  cases d with
  | none => simp -implicitDefEqProofs [dueD, D.pl]
  | some r => simp -implicitDefEqProofs [dueD, rwD, D.pl, pls_rw]
theorem k6_plain (ns : List Int) (hl : ns.length ≤ 63) : ∃ st', evCall T 200000 12 31 [.ro (ns.map .int)] [] = some (.bl true, st') := by
  rw [call_eq (fn := f_law) rfl rfl]
  have hmin : ∃ j : Int, (0 ≤ j ∧ j ≤ 5) ∧ (if (5 : Int) < (ns.length : Int) then (5 : Int) else (ns.length : Int)) = j := ⟨_, by split <;> omega, rfl⟩
  obtain ⟨j, hj, ej⟩ := hmin
  obtain ⟨ds, hr⟩ := rng_ok (lo := 0) (hi := j + 1) (by omega) (by omega)
  have hmem := rng_mem hr
  have wk := walkF_inv (step := fStep ⟨evCall T 200000 11, 0, 200000⟩ (.name 1) (match f_law_0 with | .for_ _ _ b :: _ => b | _ => [])) (fun ρ st => ∃ x1 x2 x3 x4 x5 x6 x7 x8 x9 x10 x11, ρ = [some (.ro (ns.map .int)), x1, x2, x3, x4, x5, x6, x7, x8, x9, x10, x11]) ds [some (.ro (ns.map .int)), none, none, none, none, none, none, none, none, none, none, none] [] ⟨_, _, _, _, _, _, _, _, _, _, _, rfl⟩ (by
    rintro d hd ρ st ⟨x1, x2, x3, x4, x5, x6, x7, x8, x9, x10, x11, rfl⟩
    obtain ⟨i, rfl, hi, _⟩ := hmem d hd
    obtain ⟨s1, h1, e1⟩ := spring_sp 200000 10 ns i hi st
    obtain ⟨p, s2, hp, h2, _, e2⟩ := plan_sp 200000 8 h1
    obtain ⟨n, hn⟩ : ∃ n, n = st.length := ⟨_, rfl⟩
    rw [← hn] at h1 h2 e1 e2
    have e1' : evCall T 200000 11 16 [.ro (ns.map .int), .int i] st = some (.box n, s1) := e1
    have e2' : evCall T 200000 11 21 [.box n] s1 = some (p.d, s2) := e2
    have e3 : ∀ st, evCall T 200000 11 15 [p.d] st = some (dueD (dueRow p), st) := fun st => ev_shut_row 200000 5 (by decide) p hp st
    have e4 : ∀ st, evCall T 200000 11 30 [p.d] st = some (dueD (dueRow p), st) := fun st => ev_law_shut_row 200000 6 (by decide) p hp st
    have e5 : ∀ st, evCall T 200000 11 19 [dueD (dueRow p), dueD (dueRow p)] st = some (.bl true, st) := fun st => twins 200000 2 7 _ (pl_due _) st
    have e6 : ∀ st, evCall T 200000 11 27 [p.d] st = some (waysD (ways p), st) := fun st => ev_law_ways 200000 7 (by decide) p hp st
    have hdue := due_ok p hp
    have hne := due_ne p hp
    have rng5 : rngD 0 5 = some [.int 0, .int 1, .int 2, .int 3, .int 4] := by rfl
    have kw : kKeys (waysD (ways p), s2) = some (((keysP p).map Stand.d, none), s2) := rfl
    have hks : ∀ s ∈ keysP p, Fits p s ∧ s ∈ first p := fun s hs => ⟨(keys_cd p hp).fits s hs, sortP_mem.mpr hs⟩
    have most : ∃ x4 m : Int, (if x4 > 1 then x4 else 1) = m ∧ (0 < m ∧ m ≤ 70000) ∧ (∀ r : List Bool, (r.length : Int) < m → shut (reach (led p) (first p) r) = false) ∧ ∀ (ρ : Ev.Env) (st : Store), ρ[7]? = some (some (dueD (dueRow p))) → evE ⟨evCall T 200000 11, 0, 200000⟩ (.ite (.cmp .is_ (.var 7) (.non)) (.int 30) (.prim .len [.var 7])) ρ st = some (.int x4, st) := by
      cases hd : dueRow p with
      | none =>
        rw [hd] at hdue
        refine ⟨30, 30, rfl, by decide, fun r _ => hdue r, fun ρ st h => ?_⟩
        simp -implicitDefEqProofs only [dueD] at h
        simp -implicitDefEqProofs only [h, r_din, r_din1, r_din2, r_din3, r_pop, r_pop1, r_gt, r_gt1, r_gt2, r_cat, r_cat1, r_cat2, r_cat3, r_sk, r_sk1, r_sk2, r_sk3, r_keys, r_keys1, r_items, r_items1, r_dcm, r_dcm1, r_dcm2, r_dcs, r_dcs1, r_dcs2, r_dcs3, r_dcs4, r_whl, r_dctB, v_rd_ro, r_var, r_glob, r_int, r_bl, r_non, r_str, r_tup, r_tup1, r_lst, r_lst0, r_lst1, r_dct, r_dct1, r_dct2, r_fn, r_bin, r_bin1, r_bin2, r_neg, r_neg1, r_not, r_not1, r_and, r_and1, r_or, r_or1, r_ite, r_ite1, r_kbl, r_cmp, r_cmp1, r_cmp2, r_chain, r_chain1, r_chain2, r_chain3, r_chain4, r_call, r_call1, r_prim, r_prim1, r_primB, r_primB1, r_new, r_sub, r_sub1, r_sub2, r_dsub, r_dsub1, r_dsub2, r_app, r_app1, r_app2, r_get, r_get1, r_get2, r_get3, r_frz, r_frz1, r_es0, r_es, r_es1, r_es2, r_ps0, r_ps, r_ps1, r_ps2, r_ps3, r_o0, r_o, r_o1, r_g0, r_g, r_g1, r_cut, r_cut0, r_cut1, r_cut2, r_comp, r_comp1, r_comp2, r_step, r_step1, r_step2, r_step3, r_walkL0, r_walkL, r_walkL1, r_seq, r_seq1, r_seq2, r_rng1, r_rng1a, r_rng2, r_rng2a, r_rng2b, r_in, r_zip, r_zip1, r_zip2, r_c, r_asg, r_asg1, r_nx, r_set, r_set1, r_set2, r_set3, r_st, r_expr, r_expr1, r_ret, r_ret1, r_if, r_if1, r_pass, r_ss0, r_ss, r_ss1, r_ss2, r_for, r_for1, r_fstep, r_for2, r_walkF0, r_walkF, r_walkF1, r_walkF2, v_rd_int, v_rd_bl, v_rd_str, v_rd_non, v_rd_tup, v_rd_lst, v_rd_dct, v_rR_int, v_rR_bl, v_rR_str, v_rR_non, v_rR_tup, v_rR_lst, v_rR_dct, v_rR_ro, v_rR_box, v_and, v_or, a_0, a_1, a_2, a_3, a_4, p_int, p_inti, p_lenl, p_lent, p_max, p_min, p_abs, p_all3, f_sd, f_w, p_isint, p_isinl, p_isini, p_isinb, p_isins, p_isinn, c_isn, c_isb, c_isi, c_iss, c_ist, c_isl, c_inl, c_int, b_add, b_sub, b_mul, b_mul0, b_mul1, b_w2, b_w3, v_rd_w, v_un_w, c_eqi, c_nei, c_eqs, c_lt, c_le, c_gt, c_ge, s_t, s_l, t_nm, t_tp, t_0, t_1, u_int, u_bl, u_str, u_non, u_tup, u_lst, u_0, u_1, u_s, l_5, l_4, l_3, l_2, l_1, l_0, n_0, n_1, n_2, n_3, n_4, n_5, n_6, n_7, n_8, n_9, n_10, n_11, n_12, m_0, m_1, m_2, m_3, m_4, m_5, m_6, m_7, m_8, m_9, m_10, m_11, m_12, m_13, m_14, m_15, m_16, i_23, eq_nn, eq_bb, eq_ll, beq_self_eq_true, isTy, fin_bl, fin_int, fin_tup, fin_lst, fin_nx, Option.bind_some, Option.map_some, List.map_cons, List.map_nil, List.length_cons, List.length_nil, List.replicate, List.getElem?_cons_zero, List.getElem?_cons_succ, List.set_cons_zero, List.set_cons_succ, List.cons_append, List.nil_append, List.append_nil, Nat.sub_self, List.take_length, Bool.false_eq_true, reduceIte, Bool.and_true, Bool.true_and, Bool.not_true, Bool.not_false, Bool.false_and, Bool.and_false, Nat.reduceSub, List.replicate_succ, List.replicate_zero, Nat.succ_sub_succ, decide_true, decide_false, Int.reduceEq, Int.reduceLT, Int.reduceLE, Int.reduceNeg, Int.reduceGT, gt_iff_lt, ge_iff_le, Bool.and_assoc, List.any_cons, List.any_nil, Bool.or_true, Bool.true_or, Bool.or_false, Bool.false_or]
      | some r =>
        rw [hd] at hdue
        have hpos : 0 < r.length := by
          cases r with
          | nil => exact absurd hd hne
          | cons _ _ => simp
        have hbig : r.length ≤ 65536 := due_len p hp hd
        refine ⟨(r.length : Int), (r.length : Int), by split <;> omega, by omega, fun r' hl => hdue.2 r' (by omega), fun ρ st h => ?_⟩
        have hi : cmpD .is_ (.tup (r.map D.bl)) .non = some false := rfl
        simp -implicitDefEqProofs only [dueD, rwD] at h
        simp -implicitDefEqProofs only [h, hi, List.length_map, r_din, r_din1, r_din2, r_din3, r_pop, r_pop1, r_gt, r_gt1, r_gt2, r_cat, r_cat1, r_cat2, r_cat3, r_sk, r_sk1, r_sk2, r_sk3, r_keys, r_keys1, r_items, r_items1, r_dcm, r_dcm1, r_dcm2, r_dcs, r_dcs1, r_dcs2, r_dcs3, r_dcs4, r_whl, r_dctB, v_rd_ro, r_var, r_glob, r_int, r_bl, r_non, r_str, r_tup, r_tup1, r_lst, r_lst0, r_lst1, r_dct, r_dct1, r_dct2, r_fn, r_bin, r_bin1, r_bin2, r_neg, r_neg1, r_not, r_not1, r_and, r_and1, r_or, r_or1, r_ite, r_ite1, r_kbl, r_cmp, r_cmp1, r_cmp2, r_chain, r_chain1, r_chain2, r_chain3, r_chain4, r_call, r_call1, r_prim, r_prim1, r_primB, r_primB1, r_new, r_sub, r_sub1, r_sub2, r_dsub, r_dsub1, r_dsub2, r_app, r_app1, r_app2, r_get, r_get1, r_get2, r_get3, r_frz, r_frz1, r_es0, r_es, r_es1, r_es2, r_ps0, r_ps, r_ps1, r_ps2, r_ps3, r_o0, r_o, r_o1, r_g0, r_g, r_g1, r_cut, r_cut0, r_cut1, r_cut2, r_comp, r_comp1, r_comp2, r_step, r_step1, r_step2, r_step3, r_walkL0, r_walkL, r_walkL1, r_seq, r_seq1, r_seq2, r_rng1, r_rng1a, r_rng2, r_rng2a, r_rng2b, r_in, r_zip, r_zip1, r_zip2, r_c, r_asg, r_asg1, r_nx, r_set, r_set1, r_set2, r_set3, r_st, r_expr, r_expr1, r_ret, r_ret1, r_if, r_if1, r_pass, r_ss0, r_ss, r_ss1, r_ss2, r_for, r_for1, r_fstep, r_for2, r_walkF0, r_walkF, r_walkF1, r_walkF2, v_rd_int, v_rd_bl, v_rd_str, v_rd_non, v_rd_tup, v_rd_lst, v_rd_dct, v_rR_int, v_rR_bl, v_rR_str, v_rR_non, v_rR_tup, v_rR_lst, v_rR_dct, v_rR_ro, v_rR_box, v_and, v_or, a_0, a_1, a_2, a_3, a_4, p_int, p_inti, p_lenl, p_lent, p_max, p_min, p_abs, p_all3, f_sd, f_w, p_isint, p_isinl, p_isini, p_isinb, p_isins, p_isinn, c_isn, c_isb, c_isi, c_iss, c_ist, c_isl, c_inl, c_int, b_add, b_sub, b_mul, b_mul0, b_mul1, b_w2, b_w3, v_rd_w, v_un_w, c_eqi, c_nei, c_eqs, c_lt, c_le, c_gt, c_ge, s_t, s_l, t_nm, t_tp, t_0, t_1, u_int, u_bl, u_str, u_non, u_tup, u_lst, u_0, u_1, u_s, l_5, l_4, l_3, l_2, l_1, l_0, n_0, n_1, n_2, n_3, n_4, n_5, n_6, n_7, n_8, n_9, n_10, n_11, n_12, m_0, m_1, m_2, m_3, m_4, m_5, m_6, m_7, m_8, m_9, m_10, m_11, m_12, m_13, m_14, m_15, m_16, i_23, eq_nn, eq_bb, eq_ll, beq_self_eq_true, isTy, fin_bl, fin_int, fin_tup, fin_lst, fin_nx, Option.bind_some, Option.map_some, List.map_cons, List.map_nil, List.length_cons, List.length_nil, List.replicate, List.getElem?_cons_zero, List.getElem?_cons_succ, List.set_cons_zero, List.set_cons_succ, List.cons_append, List.nil_append, List.append_nil, Nat.sub_self, List.take_length, Bool.false_eq_true, reduceIte, Bool.and_true, Bool.true_and, Bool.not_true, Bool.not_false, Bool.false_and, Bool.and_false, Nat.reduceSub, List.replicate_succ, List.replicate_zero, Nat.succ_sub_succ, decide_true, decide_false, Int.reduceEq, Int.reduceLT, Int.reduceLE, Int.reduceNeg, Int.reduceGT, gt_iff_lt, ge_iff_le, Bool.and_assoc, List.any_cons, List.any_nil, Bool.or_true, Bool.true_or, Bool.or_false, Bool.false_or]
    obtain ⟨x4', m, hm4, hm, hno, em⟩ := most
    obtain ⟨s3, y5, y9, y10, h3, e7⟩ := k6_turn p hp n 0 m hm hno (some (.ro (ns.map .int))) (some (.int i)) (some (dueD (dueRow p))) (some (dueD (dueRow p))) x4' hm4 [.int 0, .int 1, .int 2, .int 3, .int 4] s2 x5 x6 x9 x10 x11 h2
    obtain ⟨y6, y11, e8⟩ := k6_stand p hp 0 (some (.ro (ns.map .int))) (some (.int i)) (some (.box n)) (some (.int x4')) y5 (some (dueD (dueRow p))) y9 y10 (keysP p) s3 x6 x11 hks
    have kw3 : kKeys (waysD (ways p), s3) = some (((keysP p).map Stand.d, none), s3) := rfl
    refine ⟨[some (.ro (ns.map .int)), some (.int i), some (.box n), some p.d, some (.int x4'), y5, y6, some (dueD (dueRow p)), some (dueD (dueRow p)), y9, y10, y11], s3, ?_, _, _, _, _, _, _, _, _, _, _, _, rfl⟩
    have em' := fun st => em [some (.ro (ns.map .int)), some (.int i), some (.box n), some p.d, x4, x5, x6, some (dueD (dueRow p)), some (dueD (dueRow p)), x9, x10, x11] st rfl
    simp -implicitDefEqProofs only [f_law_0] at e7 e8
    generalize dueD (dueRow p) = dd at e3 e4 e5 e7 e8 em'
    have st1 : ∀ (σ : Store), evS ⟨evCall T 200000 11, 0, 200000⟩ (.asg (.name 4) (.ite (.cmp .is_ (.var 7) (.non)) (.int 30) (.prim .len [.var 7]))) [some (.ro (ns.map .int)), some (.int i), some (.box n), some p.d, x4, x5, x6, some dd, some dd, x9, x10, x11] σ = some (.nx [some (.ro (ns.map .int)), some (.int i), some (.box n), some p.d, some (.int x4'), x5, x6, some dd, some dd, x9, x10, x11], σ) := fun σ => by
      rw [r_asg, em', Option.bind_some, r_asg1, t_nm]
      rfl
    simp -implicitDefEqProofs only [f_law_0, e1', e2', e3, e4, e5, st1, rng5, e7, e6, kw3, e8, r_din, r_din1, r_din2, r_din3, r_pop, r_pop1, r_gt, r_gt1, r_gt2, r_cat, r_cat1, r_cat2, r_cat3, r_sk, r_sk1, r_sk2, r_sk3, r_keys, r_keys1, r_items, r_items1, r_dcm, r_dcm1, r_dcm2, r_dcs, r_dcs1, r_dcs2, r_dcs3, r_dcs4, r_whl, r_dctB, v_rd_ro, r_var, r_glob, r_int, r_bl, r_non, r_str, r_tup, r_tup1, r_lst, r_lst0, r_lst1, r_dct, r_dct1, r_dct2, r_fn, r_bin, r_bin1, r_bin2, r_neg, r_neg1, r_not, r_not1, r_and, r_and1, r_or, r_or1, r_ite, r_ite1, r_kbl, r_cmp, r_cmp1, r_cmp2, r_chain, r_chain1, r_chain2, r_chain3, r_chain4, r_call, r_call1, r_prim, r_prim1, r_primB, r_primB1, r_new, r_sub, r_sub1, r_sub2, r_dsub, r_dsub1, r_dsub2, r_app, r_app1, r_app2, r_get, r_get1, r_get2, r_get3, r_frz, r_frz1, r_es0, r_es, r_es1, r_es2, r_ps0, r_ps, r_ps1, r_ps2, r_ps3, r_o0, r_o, r_o1, r_g0, r_g, r_g1, r_cut, r_cut0, r_cut1, r_cut2, r_comp, r_comp1, r_comp2, r_step, r_step1, r_step2, r_step3, r_walkL0, r_walkL, r_walkL1, r_seq, r_seq1, r_seq2, r_rng1, r_rng1a, r_rng2, r_rng2a, r_rng2b, r_in, r_zip, r_zip1, r_zip2, r_c, r_asg, r_asg1, r_nx, r_set, r_set1, r_set2, r_set3, r_st, r_expr, r_expr1, r_ret, r_ret1, r_if, r_if1, r_pass, r_ss0, r_ss, r_ss1, r_ss2, r_for, r_for1, r_fstep, r_for2, r_walkF0, r_walkF, r_walkF1, r_walkF2, v_rd_int, v_rd_bl, v_rd_str, v_rd_non, v_rd_tup, v_rd_lst, v_rd_dct, v_rR_int, v_rR_bl, v_rR_str, v_rR_non, v_rR_tup, v_rR_lst, v_rR_dct, v_rR_ro, v_rR_box, v_and, v_or, a_0, a_1, a_2, a_3, a_4, p_int, p_inti, p_lenl, p_lent, p_max, p_min, p_abs, p_all3, f_sd, f_w, p_isint, p_isinl, p_isini, p_isinb, p_isins, p_isinn, c_isn, c_isb, c_isi, c_iss, c_ist, c_isl, c_inl, c_int, b_add, b_sub, b_mul, b_mul0, b_mul1, b_w2, b_w3, v_rd_w, v_un_w, c_eqi, c_nei, c_eqs, c_lt, c_le, c_gt, c_ge, s_t, s_l, t_nm, t_tp, t_0, t_1, u_int, u_bl, u_str, u_non, u_tup, u_lst, u_0, u_1, u_s, l_5, l_4, l_3, l_2, l_1, l_0, n_0, n_1, n_2, n_3, n_4, n_5, n_6, n_7, n_8, n_9, n_10, n_11, n_12, m_0, m_1, m_2, m_3, m_4, m_5, m_6, m_7, m_8, m_9, m_10, m_11, m_12, m_13, m_14, m_15, m_16, i_23, eq_nn, eq_bb, eq_ll, beq_self_eq_true, isTy, fin_bl, fin_int, fin_tup, fin_lst, fin_nx, Option.bind_some, Option.map_some, List.map_cons, List.map_nil, List.length_cons, List.length_nil, List.replicate, List.getElem?_cons_zero, List.getElem?_cons_succ, List.set_cons_zero, List.set_cons_succ, List.cons_append, List.nil_append, List.append_nil, Nat.sub_self, List.take_length, Bool.false_eq_true, reduceIte, Bool.and_true, Bool.true_and, Bool.not_true, Bool.not_false, Bool.false_and, Bool.and_false, Nat.reduceSub, List.replicate_succ, List.replicate_zero, Nat.succ_sub_succ, decide_true, decide_false, Int.reduceEq, Int.reduceLT, Int.reduceLE, Int.reduceNeg, Int.reduceGT, gt_iff_lt, ge_iff_le, Bool.and_assoc, List.any_cons, List.any_nil, Bool.or_true, Bool.true_or, Bool.or_false, Bool.false_or])
  obtain ⟨ρ', st', hw, _⟩ := wk
  refine ⟨List.take 0 st', ?_⟩
  simp -implicitDefEqProofs only [f_law_0, List.length_nil] at hw
  simp -implicitDefEqProofs only [f_law, f_law_x0, f_law_x1, List.length_map, ej, hr, hw, r_din, r_din1, r_din2, r_din3, r_pop, r_pop1, r_gt, r_gt1, r_gt2, r_cat, r_cat1, r_cat2, r_cat3, r_sk, r_sk1, r_sk2, r_sk3, r_keys, r_keys1, r_items, r_items1, r_dcm, r_dcm1, r_dcm2, r_dcs, r_dcs1, r_dcs2, r_dcs3, r_dcs4, r_whl, r_dctB, v_rd_ro, r_var, r_glob, r_int, r_bl, r_non, r_str, r_tup, r_tup1, r_lst, r_lst0, r_lst1, r_dct, r_dct1, r_dct2, r_fn, r_bin, r_bin1, r_bin2, r_neg, r_neg1, r_not, r_not1, r_and, r_and1, r_or, r_or1, r_ite, r_ite1, r_kbl, r_cmp, r_cmp1, r_cmp2, r_chain, r_chain1, r_chain2, r_chain3, r_chain4, r_call, r_call1, r_prim, r_prim1, r_primB, r_primB1, r_new, r_sub, r_sub1, r_sub2, r_dsub, r_dsub1, r_dsub2, r_app, r_app1, r_app2, r_get, r_get1, r_get2, r_get3, r_frz, r_frz1, r_es0, r_es, r_es1, r_es2, r_ps0, r_ps, r_ps1, r_ps2, r_ps3, r_o0, r_o, r_o1, r_g0, r_g, r_g1, r_cut, r_cut0, r_cut1, r_cut2, r_comp, r_comp1, r_comp2, r_step, r_step1, r_step2, r_step3, r_walkL0, r_walkL, r_walkL1, r_seq, r_seq1, r_seq2, r_rng1, r_rng1a, r_rng2, r_rng2a, r_rng2b, r_in, r_zip, r_zip1, r_zip2, r_c, r_asg, r_asg1, r_nx, r_set, r_set1, r_set2, r_set3, r_st, r_expr, r_expr1, r_ret, r_ret1, r_if, r_if1, r_pass, r_ss0, r_ss, r_ss1, r_ss2, r_for, r_for1, r_fstep, r_for2, r_walkF0, r_walkF, r_walkF1, r_walkF2, v_rd_int, v_rd_bl, v_rd_str, v_rd_non, v_rd_tup, v_rd_lst, v_rd_dct, v_rR_int, v_rR_bl, v_rR_str, v_rR_non, v_rR_tup, v_rR_lst, v_rR_dct, v_rR_ro, v_rR_box, v_and, v_or, a_0, a_1, a_2, a_3, a_4, p_int, p_inti, p_lenl, p_lent, p_max, p_min, p_abs, p_all3, f_sd, f_w, p_isint, p_isinl, p_isini, p_isinb, p_isins, p_isinn, c_isn, c_isb, c_isi, c_iss, c_ist, c_isl, c_inl, c_int, b_add, b_sub, b_mul, b_mul0, b_mul1, b_w2, b_w3, v_rd_w, v_un_w, c_eqi, c_nei, c_eqs, c_lt, c_le, c_gt, c_ge, s_t, s_l, t_nm, t_tp, t_0, t_1, u_int, u_bl, u_str, u_non, u_tup, u_lst, u_0, u_1, u_s, l_5, l_4, l_3, l_2, l_1, l_0, n_0, n_1, n_2, n_3, n_4, n_5, n_6, n_7, n_8, n_9, n_10, n_11, n_12, m_0, m_1, m_2, m_3, m_4, m_5, m_6, m_7, m_8, m_9, m_10, m_11, m_12, m_13, m_14, m_15, m_16, i_23, eq_nn, eq_bb, eq_ll, beq_self_eq_true, isTy, fin_bl, fin_int, fin_tup, fin_lst, fin_nx, Option.bind_some, Option.map_some, List.map_cons, List.map_nil, List.length_cons, List.length_nil, List.replicate, List.getElem?_cons_zero, List.getElem?_cons_succ, List.set_cons_zero, List.set_cons_succ, List.cons_append, List.nil_append, List.append_nil, Nat.sub_self, List.take_length, Bool.false_eq_true, reduceIte, Bool.and_true, Bool.true_and, Bool.not_true, Bool.not_false, Bool.false_and, Bool.and_false, Nat.reduceSub, List.replicate_succ, List.replicate_zero, Nat.succ_sub_succ, decide_true, decide_false, Int.reduceEq, Int.reduceLT, Int.reduceLE, Int.reduceNeg, Int.reduceGT, gt_iff_lt, ge_iff_le, Bool.and_assoc, List.any_cons, List.any_nil, Bool.or_true, Bool.true_or, Bool.or_false, Bool.false_or]

end K06

theorem PySem.Challenge.cw_blindpress_k06_whole_rows_that_shut_blin_holds : PySem.Challenge.rw_blindpress_k06_whole_rows_that_shut_blin.Holds := by
  exact K06.holds 200000 12 (by decide) K06.k6_plain
