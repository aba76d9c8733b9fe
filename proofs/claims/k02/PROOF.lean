import PyProof.Rows.All
import PyProof.Seq
import PyProof.FactsSeq
import HandS.Base
import HandS.Text
import HandS.Dict
import HandS.ForMost
import KE.SortKeyHeap
import HandS.Lambda
import HandS.TupAny
import HandS.Wide
import HandS.Style
import HandS.TupMul
import PyProof.Rows.StrMul
import PyProof.ReprRoads
import PyProof.NeKinds
import PyProof.EqAt
import HandS.Deep
import HandS.WideBits
import PyProof.CallFns
import HandS.Strs
import HandS.SetFor
import HandS.Exc
import HandS.ExcOwn
import HandS.CallSlots
import HandS.Flow
import HandS.Comp
import HandS.Walk
import KE.GoesMore
import PyProof.Draws
import HandS.Zip
import HandS.Property
import HandS.Defaults
import HandS.IsInst
import HandS.NamedTupGet
import KE.KCallOwn
import PyProof.InstEq
import HandS.OwnEq
import HandS.ClsMeth
import HandS.Star
import HandS.Conv
import KE.KExcInit
import HandS.ExcIs
import HandS.ExcField
import KE.KTryMore
import HandS.HotCalls
import KE.KExcIs
import HandS.HeadHook4
import HandS.HeadEnd
import HandS.EndTab
import Wide.Txt
import PyProof.ReprBulk
import PyProof.Rows.StrJoinMade
import Wide.All
import OpenK.AllK
import Wide.FinOn
import KE.KStateDown
import HandS.Head0
import HandS.Head1
import HandS.Head2
import HandS.HeadHook1
import HandS.HeadHook2
import HandS.HeadHook3
import PySem.Challenge.RW_sparebridges_k02_seas_made
set_option Elab.async false
set_option linter.all false
set_option maxRecDepth 100000
set_option maxHeartbeats 1000000
set_option autoImplicit false
/-! AI: a, b = a list. -/
namespace PySem
section
variable {prog : Program} {w : World} {A : Around} {E : Value → Shared → Prop} {s : Shared}
theorem sb_draw_list {it t : Addr} {items : Array Value} (hne : t ≠ it) : ∀ (n i : Nat) (s : Shared) (Q : List Value → Shared → Prop), s.heap.IsListIter it t i → s.heap.IsList t items → i + n ≤ items.size →
    (∀ h', h'.IsListIter it t (i + n) → Heap.SameBut it s.heap h' → Q ((items.toList.drop i).take n) { s with heap := h' }) → wpAny (model prog w) A (draw (.ref it) n) Q E s
  | 0, i, s, Q, hit, _, _, k => by
    show wpAny _ _ (pure []) Q E s
    exact wpAny_pure (by simpa using k s.heap hit (Heap.SameBut.refl ..))
  | n + 1, i, s, Q, hit, ht, hle, k => by
    have lt : i < items.size := by omega
    show wpAny _ _ (pyNext (.ref it) >>= _) Q E s
    refine wpAny_bind (wpAny_pyNext_list_item hit ht (x := items[i]) (by simp [lt]) fun h1 hit1 sb1 => ?_)
    refine wpAny_bind (wpAny_holding (sb_draw_list hne n (i + 1) _ _ hit1 (ht.extBut sb1.extBut hne) (by omega) fun h2 hit2 sb2 => wpAny_pure ?_))
    have e : items.toList.drop i = items[i] :: items.toList.drop (i + 1) := by simp [List.drop_eq_getElem_cons, lt]
    have q := k h2 (by rw [show i + (n + 1) = i + 1 + n by omega]; exact hit2) (sb1.trans sb2)
    rw [e, List.take_succ_cons] at q
    exact q
theorem sb_unpack_list {t : Addr} {items : Array Value} {Q : List Value → Shared → Prop} (hh : A.handled = none) (ht : s.heap.IsList t items)
    (k : ∀ h', Heap.ExtBut s.heap.objs.size s.heap h' → Q items.toList { s with heap := h' }) : wpAny (model prog w) A (unpackItems (.ref t) items.size none) Q E s := by
  have ne : t ≠ s.heap.objs.size := by obtain ⟨o, ho, _⟩ := ht; exact Nat.ne_of_lt (Heap.lt_size ho)
  unfold unpackItems
  refine wpAny_bind ?_
  unfold notIterableAtAll
  refine wpAny_bind (wpAny_specialOf ht.typeIs slot_list_iter.lookup (wpAny_pure ?_))
  simp only [Bool.false_eq_true, if_false]
  refine wpAny_bind (wpAny_holding (wpAny_pyIter_list ht ?_))
  refine wpAny_bind (wpAny_holding (sb_draw_list ne items.size 0 _ _ ⟨_, Heap.get?_push_size _ rfl, rfl, rfl⟩ (ht.push _) (by omega) fun h1 hit1 sb1 => ?_))
  have all : List.take items.size (List.drop 0 items.toList) = items.toList := by
    rw [List.drop_zero]; exact List.take_of_length_le (by simp)
  rw [all, if_neg (by simp)]
  refine wpAny_bind (wpAny_holding (wpAny_pyNext_list_end hh hit1 ((ht.push _).extBut sb1.extBut ne) (by simp) fun h2 he2 => ?_))
  simp only [Option.isSome_none, Bool.false_eq_true, if_false]
  exact wpAny_pure (k h2 fun b o hb e => he2 b o hb (sb1.extBut b o hb (Heap.get?_push_of_some _ e)))
end
end PySem
namespace L2
open PySem PySem.Spec PyProof.Rows
section
variable {X : Cx} {pos : Pos}
/-- (a, b, ..) = a tuple or a list of that length -/
def gSeq (K : PySem.W.Frag) (n : Nat) (t : TGs) : TG := fun v σ H Q => ∃ a xs, v = .ref a ∧ (SqT K H a xs ∨ H a = some (.lst xs)) ∧ xs.length = n ∧ t xs σ H Q
theorem pg_seq {es : List Expr} {k : Nat} {t : TGs} {n : Nat} (hc : X.calm = true) (h : PGs X es t) (hn : (assignEach es X.env).length = n) (hst : (assignEach es X.env).findIdx? (·.1) = none) : PG X (.Tuple es k pos) (gSeq X.K n t) := by
  refine ⟨fun pins s σ H v u Q I r ⟨a, xs, e1, hq, hl, hw⟩ => ?_⟩
  rcases hq with hq | hq
  · exact (pg_tup hc h hn hst).run pins s σ H v u Q I r ⟨a, xs, e1, hq, hl, hw⟩
  · subst e1
    cases r
    obtain ⟨its, rv, ⟨o, n', g1, g2, g3, g4⟩, hz⟩ := I.list (xs := xs) (.inl (.inl hq))
    have hL : s.heap.IsList a its.toArray := ⟨o, g1, g2, n', g4⟩
    have hi : (assignEach es X.env).length = its.toArray.size := by
      rw [hn, ← hl, rv.length, List.size_toArray]
    rw [PyProof.Rows.assign_Tuple]
    refine wpAny_bind (wpAny_standAt ?_)
    unfold unpack
    rw [hi, hst]
    refine wpAny_bind (wpAny_holding (sb_unpack_list (I.ok.hd hc) hL fun h' hx => ?_))
    have I1 : Inv X pins σ H { s with heap := h' } := I.kept (t' := s.toks) fun b o e => hx b o (Nat.ne_of_lt (Heap.lt_size e)) e
    rw [List.toList_toArray]
    exact h.run pins _ σ H xs its Q I1 rv hw
end
end L2
set_option linter.all false
/-! A0: data, the small language, its meaning by what is wanted behind it (no heap). -/
namespace Sb
open PySem
inductive D where
  | none | bool (b : Bool) | int (i : Int) | str (s : Str)
  | tup (xs : List D) | lst (xs : List D) | dct (kvs : List (D × D))
  | obj (c : Nat) (fs : List D) | exc (c : Nat) (fs : List D) | cls (c : Nat) | clo (j : Nat) | ptr (a : Nat) | scr (ns : List Int)
  | own (xs : List D) | bor (xs : List D)
  /-- a dict that is written down: texts to whole numbers -/
  | sd (l : List (Str × Int))
inductive Cst where
  | none | bool (b : Bool) | int (i : Int) | str (s : Str)
  deriving DecidableEq
def Cst.d : Cst → D
  | .none => .none | .bool b => .bool b | .int i => .int i | .str s => .str s
inductive Bo where
  | add | sub | mul | fdiv | mod | pow
  deriving DecidableEq
inductive Co where
  | eq | ne | lt | le | gt | ge | isn | notn | in_ | nin
  deriving DecidableEq
/-- built-in functions -/
inductive Bi where
  | len | sum | min | max | all | any | tuple | list | sorted | str | int | bool | abs | divmod | repr | set | dict
  deriving DecidableEq
/-- methods of built-in types -/
inductive Mt where
  | index | count | join | split | upper | replace | get
  deriving DecidableEq
/-- types, for isinstance -/
inductive Ty where
  | int | bool | str | tuple | list | dict | cls (c : Nat)
  deriving DecidableEq
/-- expressions (lists of expressions by nil and cons); targets are expressions too: var, tup, ix -/
inductive Ex where
  | nil | cons (e r : Ex)
  | cst (c : Cst) | var (i : Nat) | bvar (i : Nat) | lend (i : Nat) | mkown (e : Ex) | glob (g : Nat)
  | bin (o : Bo) (a b : Ex) | neg (a : Ex)
  | cmp (o : Co) (a b : Ex) | cmp2 (o o2 : Co) (a b c : Ex)
  | and (a b : Ex) | or (a b : Ex) | not (a : Ex) | ife (c a b : Ex)
  | lst (es : Ex) | tup (es : Ex) | lstar (es e : Ex) | dict (ks vs : Ex)
  | ix (a i : Ex) | sl (a lo hi : Ex) | rev (a : Ex)
  | attr (a : Ex) (n : Nat)
  | call (f : Nat) (es kes : Ex) (ks : List Nat) | callv (i : Nat) (es : Ex) | callc (f : Nat) (np : Nat) (body : Ex) (cap : List (Nat × Nat)) (ns : Nat) (es : Ex) (ks : List Nat)
  | mk (c : Nat) (es kes : Ex) (ks : List Nat)
  | bi (b : Bi) (es : Ex) | mt (m : Mt) (a es : Ex) | umt (a : Ex) (n : Nat) (es kes : Ex) (ks : List Nat)
  | cmt (c f : Nat) (es kes : Ex) (ks : List Nat)
  | isi (a : Ex) (ts : List Ty)
  | comp (t it c e : Ex) (own : List Nat) | comp2 (t it c t2 it2 c2 e : Ex) (own own2 : List Nat)
  | dcomp (t it k v : Ex) (own : List Nat)
  | yes
  | rng1 (a : Ex) | rng2 (a b : Ex) | enum (a : Ex) | zip (es : Ex) | items (a : Ex)
  | listof (it : Ex) | tupof (it : Ex)
  | sortk (a : Ex) (body : Ex) (cap : List (Nat × Nat)) (ns : Nat)
  | box (e : Ex)
  | srl (e : Ex)
  | isx (a : Ex) (k : Option Nat) (s : Str) (l : List Nat)
  | attx (a : Ex) (n : Nat)
  | lamc (f : Nat) (body : Ex)
  | sdl (l : List (Str × Int))
  | up (a : Ex)
  | stro (a : Ex) | eqo (ne : Bool) (a b : Ex) | mkv (c i : Nat) (es : Ex)
  | inso (ng : Bool) (a b : Ex) | boolo (a : Ex)
  deriving DecidableEq
/-- statements -/
inductive Sx where
  | nil | seq (s r : Sx)
  | asg (t e : Ex) | par (is : List Nat) (es : Ex)
  | setAt (i : Nat) (n : Nat) (e : Ex)
  | aug (i : Nat) (e : Ex)
  | app (i : Nat) (e : Ex) | ins (i : Nat) (a e : Ex) | pop (i : Nat)
  | expr (e : Ex)
  | ite (c : Ex) (a b : Sx)
  | for_ (t it : Ex) (b : Sx) | forz (t : Ex) (i : Nat) (b : Sx)
  | while_ (c : Ex) (b : Sx)
  | brk | cont | pass
  | ret (e : Ex) | retv (i : Nat)
  | raise (c : Nat) (es : Ex)
  | try_ (b : Sx) (cs l : List Nat) (x : Nat) (h : Sx)
  | stop
  deriving DecidableEq
/-! ### data -/
mutual
def D.py : D → Option PyData
  | .none => some .none | .bool b => some (.bool b) | .int i => some (.int i) | .str s => some (.str s)
  | .tup xs => (D.pys xs).map .tuple
  | .lst xs => (D.pys xs).map .list
  | .dct kvs => (D.pykv kvs).map .dict
  | .sd l => some (.dict (l.map fun p => (.str p.1, .int p.2)))
  | _ => Option.none
def D.pys : List D → Option (List PyData)
  | [] => some []
  | x :: r => match D.py x, D.pys r with
    | some a, some b => some (a :: b)
    | _, _ => Option.none
def D.pykv : List (D × D) → Option (List (PyData × PyData))
  | [] => some []
  | (k, v) :: r => match D.py k, D.py v, D.pykv r with
    | some a, some b, some c => some ((a, b) :: c)
    | _, _, _ => Option.none
end
mutual
/-- without addresses of the store -/
def D.pure : D → Bool
  | .ptr _ => false | .own _ => false | .bor _ => false | .clo _ => false
  | .tup xs => D.pureL xs | .lst xs => D.pureL xs | .obj _ xs => D.pureL xs | .exc _ xs => D.pureL xs
  | .dct kvs => D.pureK kvs
  | _ => true
def D.pureL : List D → Bool
  | [] => true
  | x :: r => D.pure x && D.pureL r
def D.pureK : List (D × D) → Bool
  | [] => true
  | (k, v) :: r => D.pure k && D.pure v && D.pureK r
end
mutual
/-- the address a does not stand in it -/
def D.noP (a : Nat) : D → Bool
  | .ptr b => !(b == a)
  | .tup xs => D.noPL a xs | .lst xs => D.noPL a xs | .obj _ xs => D.noPL a xs | .exc _ xs => D.noPL a xs
  | .dct kvs => D.noPK a kvs
  | _ => true
def D.noPL (a : Nat) : List D → Bool
  | [] => true
  | x :: r => D.noP a x && D.noPL a r
def D.noPK (a : Nat) : List (D × D) → Bool
  | [] => true
  | (k, v) :: r => D.noP a k && D.noP a v && D.noPK a r
end
mutual
/-- neither a caught exception nor a closure within -/
def D.noX : D → Bool
  | .exc _ _ => false | .clo _ => false
  | .tup xs => D.noXL xs | .lst xs => D.noXL xs | .obj _ xs => D.noXL xs | .own xs => D.noXL xs | .bor xs => D.noXL xs
  | _ => true
def D.noXL : List D → Bool
  | [] => true
  | x :: r => D.noX x && D.noXL r
end
def intsD : List D → Option (List Int)
  | [] => some []
  | .int i :: r => (intsD r).map (i :: ·)
  | _ => none
def boolsD : List D → Option (List Bool)
  | [] => some []
  | .bool b :: r => (boolsD r).map (b :: ·)
  | _ => none
def strsD : List D → Option (List Str)
  | [] => some []
  | .str s :: r => (strsD r).map (s :: ·)
  | _ => none
inductive Cell where
  | lst (xs : List D) | dct (kvs : List (D × D)) | ins (c : Nat) (fs : List D)
abbrev Store := Nat → Option Cell
def Store.put (S : Store) (a : Nat) (c : Cell) : Store := fun b => if b = a then some c else S b
def Store.del (S : Store) (a : Nat) : Store := fun b => if b = a then none else S b
abbrev Env := List (Option D)
abbrev QD := D → Store → Prop
abbrev QB := Bool → Store → Prop
abbrev QL := List D → Store → Prop
abbrev Clo := List D → Store → QD → QD → Prop
abbrev Fsem := List Clo → Nat → List D → Store → QD → QD → Prop
/-- what is wanted behind a statement -/
structure Ko where
  nx : Env → Store → Prop
  rt : QD
  bk : Env → Store → Prop
  ct : Env → Store → Prop
  ex : Env → QD
structure Fn where
  names : List Str
  np : Nat
  dfl : List D := []
  fresh : Bool := false
  lam : Bool := false
  hot : Bool := false
  clo : Bool := false
  body : Sx
inductive At where
  | fld (i : Nat) | prop (f : Nat) | meth (f : Nat)
structure Cl where
  mu : Bool
  init : Nat
  nf : Nat
  at_ : List (Nat × At)
  len : Option Nat := none
  has : Option Nat := none
  eq : Option Nat := none
  str : Option Nat := none
  tru : Option Nat := none
structure Prog where
  fns : List Fn
  cls : List Cl
  consts : List D
  /-- classes of exceptions, with the attributes that are their fields -/
  exs : List (Nat × List Nat) := []
/-- the lines of sizes -/
abbrev sl : Nat := 16777216
def mulOk (i j : Int) : Prop := ((-(2 ^ 64) < i ∧ i < 2 ^ 64) ∨ (-(2 ^ 64) < j ∧ j < 2 ^ 64)) ∨ (i.natAbs < 2 ^ 4000 ∧ j.natAbs < 2 ^ 4000)
def divOk (j : Int) : Prop := 0 < j ∧ j.natAbs < 2 ^ 8000
def powOk (i j : Int) : Prop := 0 ≤ j ∧ j ≤ 1000000 ∧ i.natAbs < 2 ^ 64
def binD (o : Bo) (a b : D) (Q : D → Prop) : Prop :=
  match o, a, b with
  | .add, .int i, .int j => Q (.int (i + j))
  | .sub, .int i, .int j => Q (.int (i - j))
  | .mul, .int i, .int j => mulOk i j ∧ Q (.int (i * j))
  | .fdiv, .int i, .int j => divOk j ∧ Q (.int (i / j))
  | .mod, .int i, .int j => 0 < j ∧ Q (.int (i % j))
  | .pow, .int i, .int j => powOk i j ∧ Q (.int (i ^ j.toNat))
  | .add, .str x, .str y => x.length + y.length ≤ sl ∧ Q (.str (x ++ y))
  | .add, .tup xs, .tup ys => xs.length + ys.length ≤ sl ∧ Q (.tup (xs ++ ys))
  | .add, .lst xs, .lst ys => xs.length + ys.length ≤ sl ∧ Q (.lst (xs ++ ys))
  | .mul, .tup xs, .int k => (1 ≤ k ∧ k ≤ 1000 ∧ xs ≠ [] ∧ xs.length ≤ 1000) ∧ Q (.tup (List.replicate k.toNat xs).flatten)
  | .mul, .str x, .int k => (0 ≤ k ∧ k ≤ 1000 ∧ x.length ≤ 1000) ∧ Q (.str (Txt.mul x k))
  | .mul, .lst xs, .int k => (0 ≤ k ∧ k < 2 ^ 62 ∧ xs.length * k.toNat ≤ sl) ∧ Q (.lst (List.replicate k.toNat xs).flatten)
  | _, _, _ => False
/-- truth of data without own classes -/
def truD (d : D) (Q : Bool → Prop) : Prop :=
  match d with
  | .none => Q false
  | .bool b => Q b
  | .int i => Q (i != 0)
  | .str s => s.length ≤ sl ∧ Q (s.length != 0)
  | .tup xs => Q (!xs.isEmpty)
  | .lst xs => Q (!xs.isEmpty)
  | _ => False
/-- == of data -/
def eqD (a b : D) : Option Bool :=
  match a, b with
  | .str x, .str y => some (decide (x = y))
  | .str _, .sd _ => some false
  | a, b => match a.py, b.py with
    | some p, some q => if (SeqAt.shaped p && SeqAt.shaped q) = true then some (PyData.eqv p q) else none
    | _, _ => none
def flatD : D → Bool
  | .none => true | .bool _ => true | .int _ => true | .str _ => true | _ => false
def eqF : D → D → Bool
  | .none, .none => true
  | .bool a, .bool b => a == b
  | .bool a, .int b => (if a then 1 else 0) == b
  | .int a, .bool b => a == (if b then 1 else 0)
  | .int a, .int b => a == b
  | .str a, .str b => a == b
  | _, _ => false
def isSd : D → Bool
  | .sd _ => true
  | _ => false
def isSt : D → Bool
  | .str _ => true
  | _ => false
/-- x in ys -/
def inD (x : D) (ys : List D) : Option Bool :=
  if (flatD x && ys.all flatD) = true then some (ys.any fun y => eqF y x)
  else if (isSd x && ys.all isSt) = true then some false
  else match x.py, D.pys ys with
    | some d, some ds => if (SeqAt.shaped d && PyData.canLayAll0 ds) = true then some (ds.any fun z => PyData.eqv z d) else none
    | _, _ => none
/-- order of data: intsD, texts -/
def ltD (a b : D) : Option Bool :=
  match a, b with
  | .int i, .int j => some (decide (i < j))
  | .str x, .str y => some (decide (x.cps.toList < y.cps.toList))
  | _, _ => none
def leD (a b : D) : Option Bool :=
  match a, b with
  | .int i, .int j => some (decide (i ≤ j))
  | .str x, .str y => some (!decide (y.cps.toList < x.cps.toList))
  | _, _ => none
def ob (o : Option Bool) (Q : Bool → Prop) : Prop := match o with
  | some b => Q b
  | none => False
/-- s in t of texts -/
def subS (x y : Str) : Bool := !(Builtin.Str.occurrences y x 0 y.length 1).isEmpty
def cmpD (o : Co) (a b : D) (Q : Bool → Prop) : Prop :=
  match o with
  | .eq => ob (eqD a b) Q
  | .ne => ob (eqD a b) fun c => Q (!c)
  | .lt => ob (ltD a b) Q
  | .gt => ob (ltD b a) Q
  | .le => ob (leD a b) Q
  | .ge => ob (leD b a) Q
  | .isn => (match b with
    | .none => Q (match a with | .none => true | _ => false)
    | .bool y => (match a with | .bool x => Q (x == y) | _ => False)
    | _ => False)
  | .notn => (match b with
    | .none => Q (match a with | .none => false | _ => true)
    | .bool y => (match a with | .bool x => Q (!(x == y)) | _ => False)
    | _ => False)
  | .in_ => (match a, b with
    | x, .lst ys => ob (inD x ys) Q
    | x, .tup ys => ob (inD x ys) Q
    | .str x, .str y => Q (subS x y)
    | _, _ => False)
  | .nin => (match a, b with
    | x, .lst ys => ob (inD x ys) fun c => Q (!c)
    | x, .tup ys => ob (inD x ys) fun c => Q (!c)
    | .str x, .str y => Q (!subS x y)
    | _, _ => False)
def ixD (a i : D) (Q : D → Prop) : Prop :=
  match a, i with
  | .lst xs, .int k => (match L2.atI xs k with | some v => Q v | none => False)
  | .tup xs, .int k => (match L2.atI xs k with | some v => Q v | none => False)
  | .scr ns, .int k => (match L2.atI ns k with | some v => Q (.int v) | none => False)
  | .str s, .int k => s.length ≤ sl ∧ (match L2.atI s.cps.toList k with | some c => Q (.str ⟨#[c]⟩) | none => False)
  | _, _ => False
def cut {α : Type} (xs : List α) (lo hi : Option Int) : List α := (xs.drop (HT.sIx xs.length 0 lo)).take (HT.sIx xs.length xs.length hi - HT.sIx xs.length 0 lo)
def slD (a : D) (lo hi : Option Int) (Q : D → Prop) : Prop :=
  match a with
  | .lst xs => Q (.lst (cut xs lo hi))
  | .tup xs => Q (.tup (cut xs lo hi))
  | .scr ns => Q (.lst ((cut ns lo hi).map .int))
  | .str s => s.length ≤ sl ∧ Q (.str ⟨(cut s.cps.toList lo hi).toArray⟩)
  | _ => False
def revD (a : D) (Q : D → Prop) : Prop :=
  match a with
  | .lst xs => Q (.lst xs.reverse)
  | _ => False
/-- what a loop walks -/
def itemsD (d : D) (Q : List D → Prop) : Prop :=
  match d with
  | .lst xs => Q xs
  | .tup xs => Q xs
  | .str s => Q (s.cps.toList.map fun c => .str ⟨#[c]⟩)
  | _ => False
def enumL : Nat → List D → List D
  | _, [] => []
  | n, x :: r => .tup [.int n, x] :: enumL (n + 1) r
/-- zip of two, of three lists -/
def zipL : List (List D) → List D
  | [xs, ys] => List.zipWith (fun x y => .tup [x, y]) xs ys
  | [xs, ys, zs] => List.zipWith (fun x (p : D × D) => .tup [x, p.1, p.2]) xs (ys.zip zs)
  | _ => []
def seqsD : List D → Option (List (List D))
  | [] => some []
  | .lst xs :: r => (seqsD r).map (xs :: ·)
  | .tup xs :: r => (seqsD r).map (xs :: ·)
  | _ => none
def minI : List Int → Int
  | [] => 0
  | [x] => x
  | x :: r => if minI r < x then minI r else x
def maxI : List Int → Int
  | [] => 0
  | [x] => x
  | x :: r => if x < maxI r then maxI r else x
def oi (o : Option (List Int)) (Q : List Int → Prop) : Prop := match o with
  | some xs => Q xs
  | none => False
def obs (o : Option (List Bool)) (Q : List Bool → Prop) : Prop := match o with
  | some xs => Q xs
  | none => False
def oss (o : Option (List Str)) (Q : List Str → Prop) : Prop := match o with
  | some xs => Q xs
  | none => False
def reprD (d : D) (Q : D → Prop) : Prop := match d.py with
  | some p => (p.showable = true ∧ p.depth ≤ 60 ∧ p.shown.length ≤ sl) ∧ Q (.str p.shown)
  | none => False
mutual
/-- data without instances -/
def encD : D → PyData
  | .bool b => .bool b
  | .int i => .int i
  | .str x => .str x
  | .lst ds => .list (encL ds)
  | .tup ds => .tuple (encL ds)
  | _ => .none
def encL : List D → List PyData
  | [] => []
  | d :: ds => encD d :: encL ds
end
mutual
def plnD : D → Bool
  | .none => true
  | .bool _ => true
  | .int _ => true
  | .str _ => true
  | .lst ds => plnL ds
  | .tup ds => plnL ds
  | _ => false
def plnL : List D → Bool
  | [] => true
  | d :: ds => plnD d && plnL ds
end
/-- sorted, on data -/
def srtD (d : D) (Q : D → Prop) : Prop := ∃ ds, d = .lst ds ∧ plnL ds = true ∧ PySem.W.AllAlike (ds.map encD) ∧ PySem.W.Sortable (ds.map encD) ∧ (∀ e ∈ ds, (encD e).depth ≤ 60) ∧ Q (.lst (ds.mergeSort (PySem.W.dataLe false encD)))
def rowLe : List Int → List Int → Bool := PySem.W.dataLe false fun r => .tuple [.int r.length, .list (r.map .int)]
def rowD (r : List Int) : D := .lst (r.map .int)
/-- sorted rows -/
def srD (d : D) (Q : D → Prop) : Prop := ∃ rows : List (List Int), d = .lst (rows.map rowD) ∧ Q (.lst ((rows.mergeSort rowLe).map rowD))
def biD (b : Bi) (ds : List D) (Q : D → Prop) : Prop :=
  match b, ds with
  | .len, [.lst xs] => Q (.int xs.length)
  | .len, [.tup xs] => Q (.int xs.length)
  | .len, [.scr ns] => Q (.int ns.length)
  | .len, [.str s] => s.length ≤ sl ∧ Q (.int s.length)
  | .sum, [.lst xs] => oi (intsD xs) fun ns => Q (.int ns.sum)
  | .min, [.lst xs] => oi (intsD xs) fun ns => ns ≠ [] ∧ Q (.int (minI ns))
  | .max, [.lst xs] => oi (intsD xs) fun ns => ns ≠ [] ∧ Q (.int (maxI ns))
  | .min, [.int i, .int j] => Q (.int (if j < i then j else i))
  | .max, [.int i, .int j] => Q (.int (if j > i then j else i))
  | .all, [.lst xs] => obs (boolsD xs) fun bs => Q (.bool (bs.all id))
  | .any, [.lst xs] => obs (boolsD xs) fun bs => Q (.bool (bs.any id))
  | .sorted, [d] => srtD d Q
  | .tuple, [.lst xs] => Q (.tup xs)
  | .tuple, [.tup xs] => Q (.tup xs)
  | .list, [.lst xs] => Q (.lst xs)
  | .list, [.tup xs] => Q (.lst xs)
  | .str, [.int i] => i.natAbs.log2 < 1920 ∧ Q (.str (toString i))
  | .int, [.int i] => Q (.int i)
  | .int, [.bool k] => Q (.int (if k then 1 else 0))
  | .abs, [.int i] => Q (.int (if i < 0 then -i else i))
  | .divmod, [.int i, .int j] => divOk j ∧ Q (.tup [.int (i / j), .int (i % j)])
  | .repr, [d] => reprD d Q
  | .bool, [d] => truD d fun b => Q (.bool b)
  | _, _ => False
/-- the first place of x in ys, all of them flat -/
def idxF (x : D) (ys : List D) : Option Nat :=
  if flatD x && ys.all flatD then ys.findIdx? (fun y => eqF y x) else none
/-- .. of any depth -/
def idxD (x : D) (ys : List D) : Option Nat :=
  if flatD x && ys.all flatD then ys.findIdx? (fun y => eqF y x)
  else match x.py, D.pys ys with
    | some d, some ds => if (SeqAt.shaped d && SeqAt.shaped (.list ds)) = true then ds.findIdx? (fun z => PyData.eqv z d) else none
    | _, _ => none
def countD (x : D) (ys : List D) : Option Nat :=
  if flatD x && ys.all flatD then some (ys.countP fun y => eqF y x) else none
def onat (o : Option Nat) (Q : Nat → Prop) : Prop := match o with
  | some n => Q n
  | none => False
def mtD (m : Mt) (a : D) (ds : List D) (Q : D → Prop) : Prop :=
  match m, a, ds with
  | .index, .lst xs, [x] => onat (idxD x xs) fun n => Q (.int n)
  | .index, .tup xs, [x] => onat (idxF x xs) fun n => Q (.int n)
  | .count, .lst xs, [x] => onat (countD x xs) fun n => Q (.int n)
  | .join, .str s, [.lst xs] => oss (strsD xs) fun ys => (ys.map (·.length)).sum + ys.length * s.length ≤ sl ∧ Q (.str (Txt.join s ys))
  | .join, .str s, [.tup xs] => oss (strsD xs) fun ys => (ys.map (·.length)).sum + ys.length * s.length ≤ sl ∧ Q (.str (Txt.join s ys))
  | .split, .str s, [.str t] => (t.length ≠ 0 ∧ s.length + 2 ≤ sl) ∧ Q (.lst ((Txt.split s t).map .str))
  | _, _, _ => False
/-- the value has such a method -/
def mtAble : Mt → D → Bool
  | .index, .lst _ => true | .index, .tup _ => true | .count, .lst _ => true
  | .join, .str _ => true | .split, .str _ => true
  | _, _ => false
def tyD (d : D) (t : Ty) : Bool :=
  match d, t with
  | .int _, .int => true
  | .bool _, .int => true
  | .bool _, .bool => true
  | .str _, .str => true
  | .tup _, .tuple => true
  | .lst _, .list => true
  | .dct _, .dict => true
  | .sd _, .dict => true
  | .obj c _, .cls k => c == k
  | _, _ => false
/-- isinstance is asked of such values -/
def isAble : D → Bool
  | .clo _ => false | .ptr _ => false | .scr _ => false | .exc _ _ => false | .cls _ => false | .own _ => false | .bor _ => false | .dct _ => false | _ => true
def wipe (own : List Nat) (ρ : Env) : Env := match own with
  | [] => ρ
  | v :: vs => (wipe vs ρ).set v none
def setAll : List Nat → List D → Env → Env
  | i :: is, d :: ds, ρ => setAll is ds (ρ.set i (some d))
  | _, _, ρ => ρ
def startE (ns : Nat) (args : List D) : Env := args.map some ++ List.replicate (ns - args.length) none
/-- how positional values and those by name (ks: the parameters' places) come to the parameters -/
def bindK {α : Type} (np : Nat) (dfl ds : List α) (ks : List Nat) : Option (List α) :=
  let p := ds.length - ks.length
  (List.range np).mapM fun j =>
    if j < p then ds[j]?
    else match ks.idxOf? j with
      | some m => ds[p + m]?
      | none => if np - dfl.length ≤ j then dfl[j - (np - dfl.length)]? else none
def getB (ρ : Env) (i : Nat) (Q : D → Prop) : Prop := match ρ[i]? with
  | some (some (.own xs)) => Q (.lst xs)
  | some (some (.bor xs)) => Q (.lst xs)
  | some (some (.clo _)) => False
  | some (some d) => Q d
  | _ => False
def getL (ρ : Env) (i : Nat) (Q : D → Prop) : Prop := match ρ[i]? with
  | some (some (.own xs)) => Q (.bor xs)
  | some (some (.clo _)) => False
  | some (some d) => Q d
  | _ => False
def getV (ρ : Env) (i : Nat) (Q : D → Prop) : Prop := match ρ[i]? with
  | some (some (.own _)) => False
  | some (some (.bor _)) => False
  | some (some (.clo _)) => False
  | some (some d) => Q d
  | _ => False
def Cl.at (c : Cl) (n : Nat) : Option At := c.at_.lookup n
end Sb
set_option linter.all false
set_option maxRecDepth 20000
/-! A1: the meaning of expressions and statements. -/
namespace Sb
open PySem
def clsIn (P : Prog) : D → Bool
  | .obj c _ => (P.cls[c]?).isSome
  | _ => true
def clsOf (d : D) (S : Store) : Option (Nat × List D) :=
  match d with
  | .obj c fs => some (c, fs)
  | .ptr a => (match S a with
    | some (.ins c fs) => some (c, fs)
    | _ => none)
  | _ => none
/-- a special method of the value's class -/
def spec (P : Prog) (d : D) (S : Store) (g : Cl → Option Nat) : Option Nat :=
  match clsOf d S with
  | some (c, _) => (match P.cls[c]? with
    | some k => g k
    | none => none)
  | none => none
def isObj (d : D) (S : Store) : Bool := (clsOf d S).isSome
def attrD (P : Prog) (F : Fsem) (Γ : List Clo) (n : Nat) (d : D) (S : Store) (Q E : QD) : Prop :=
  match d, clsOf d S with
  | _, some (c, fs) => (match P.cls[c]? with
    | some k => (match k.at n with
      | some (.fld i) => (match fs[i]? with
        | some v => Q v S
        | none => False)
      | some (.prop f) => F Γ f [d] S Q fun _ _ => False
      | _ => False)
    | none => False)
  | _, none => False
def umtD (P : Prog) (F : Fsem) (Γ : List Clo) (n : Nat) (ks : List Nat) (d : D) (ds : List D) (S : Store) (Q E : QD) : Prop :=
  match clsOf d S with
  | some (c, _) => (match P.cls[c]? with
    | some k => (match k.at n with
      | some (.meth f) => (match P.fns[f]? with
        | some fn => (match bindK fn.np fn.dfl (d :: ds) ks with
          | some args => F Γ f args S Q E
          | none => False)
        | none => False)
      | _ => False)
    | none => False)
  | none => False
def callD (P : Prog) (F : Fsem) (Γ : List Clo) (f : Nat) (ks : List Nat) (ds : List D) (S : Store) (Q E : QD) : Prop :=
  match P.fns[f]? with
  | some fn => (match bindK fn.np fn.dfl ds ks with
    | some args => F Γ f args S Q E
    | none => False)
  | none => False
/-- C(..): a new instance, its __init__, then (where it is never changed) a value -/
def mkD (P : Prog) (F : Fsem) (Γ : List Clo) (c : Nat) (ks : List Nat) (ds : List D) (S : Store) (Q E : QD) : Prop :=
  match P.cls[c]? with
  | some k => (match P.fns[k.init]? with
    | some fn => ∀ a : Nat, S a = none → (match bindK fn.np fn.dfl (.ptr a :: ds) ks with
      | some args => F Γ k.init args (S.put a (.ins c [])) (fun r S' => r = .none ∧ match S' a with
          | some (.ins c' fs) => (c' = c ∧ fs.length = k.nf) ∧ if k.mu = true then Q (.ptr a) S' else (D.pureL fs = true ∧ S'.del a = S) ∧ Q (.obj c fs) S
          | _ => False) E
      | none => False)
    | none => False)
  | none => False
/-- a special method of an own class (it raises nothing) -/
def ownX (P : Prog) (F : Fsem) (Γ : List Clo) (g : Cl → Option Nat) (d : D) (ds : List D) (S : Store) (Q : QD) : Prop :=
  match spec P d S g with
  | some f => F Γ f (d :: ds) S Q fun _ _ => False
  | none => False
/-- what __str__ gives back, what __eq__ does -/
def strQ (Q : QD) : QD := fun r S => match r with
  | .str x => Q (.str x) S
  | _ => False
def boolQ (ne : Bool) (Q : QB) : QD := fun r S => match r with
  | .bool c => Q (c ^^ ne) S
  | _ => False
/-- data of a built-in type -/
def bltD : D → Bool
  | .none => true | .bool _ => true | .int _ => true | .str _ => true | .lst _ => true | .tup _ => true | .sd _ => true
  | _ => false
/-- two instances of one class, or an instance and data -/
def sameC (x y : D) (S : Store) : Prop := match clsOf x S, clsOf y S with
  | some (c, _), some (c', _) => c = c'
  | some _, none => bltD y = true
  | _, _ => False
def truX (P : Prog) (F : Fsem) (Γ : List Clo) (d : D) (S : Store) (Q : QB) (E : QD) : Prop :=
  if isObj d S = true then False else truD d fun b => Q b S
def biX (P : Prog) (F : Fsem) (Γ : List Clo) (b : Bi) (ds : List D) (S : Store) (Q E : QD) : Prop :=
  match b, ds with
  | .len, [d] => if isObj d S = true then ownX P F Γ (·.len) d [] S (fun r S => match r with
      | .int i => (0 ≤ i ∧ i < 2 ^ 31) ∧ Q (.int i) S
      | _ => False) else biD .len [d] fun r => Q r S
  | b, ds => biD b ds fun r => Q r S
def cmpX (P : Prog) (F : Fsem) (Γ : List Clo) (o : Co) (a b : D) (S : Store) (Q : QB) (E : QD) : Prop :=
  cmpD o a b fun c => Q c S
/-- x[i] = v, where x stands in a slot (a list or dict of the def's own) or in the store -/
def setL (xs : List D) (i : D) (v : D) (Q : List D → Prop) : Prop :=
  match i with
  | .int k => (match L2.ixN xs.length k with
    | some j => Q (xs.set j v)
    | none => False)
  | _ => False
def setIxD (ρ : Env) (i : Nat) (iv v : D) (S : Store) (Q : Env → Store → Prop) : Prop :=
  match ρ[i]? with
  | some (some (.own xs)) => setL xs iv v fun ys => Q (ρ.set i (some (.own ys))) S
  | some (some (.ptr a)) => (match S a with
    | some (.lst xs) => setL xs iv v fun ys => Q ρ (S.put a (.lst ys))
    | _ => False)
  | _ => False
def exLen : Ex → Nat
  | .cons _ r => exLen r + 1
  | _ => 0
/-- the target's list is there -/
def slotOf : Ex → Env → Bool
  | .var n, ρ => (match ρ[n]? with
    | some (some _) => true
    | _ => false)
  | _, _ => true
/-- the loop of a comprehension -/
def loopC (bnd : D → Store → (Env → Store → Prop) → Prop) (cond : Env → Store → QB → Prop) (elt : Env → Store → QD → Prop) : List D → List D → Store → QL → Prop
  | [], acc, S, Q => Q acc S
  | x :: r, acc, S, Q => bnd x S fun ρ S => cond ρ S fun b S =>
      if b = true then elt ρ S fun d S => acc.length < sl ∧ loopC bnd cond elt r (acc ++ [d]) S Q
      else loopC bnd cond elt r acc S Q
/-- .. with two clauses: the inner one goes on with the same list -/
def loopC2 (bnd : D → Store → (Env → Store → Prop) → Prop) (cond : Env → Store → QB → Prop) (inner : Env → List D → Store → QL → Prop) : List D → List D → Store → QL → Prop
  | [], acc, S, Q => Q acc S
  | x :: r, acc, S, Q => bnd x S fun ρ S => cond ρ S fun b S =>
      if b = true then inner ρ acc S fun acc S => loopC2 bnd cond inner r acc S Q
      else loopC2 bnd cond inner r acc S Q
def loopS (body : D → Env → Store → (Env → Store → Prop) → Prop) (nx : Env → Store → Prop) : List D → Env → Store → Prop
  | [], ρ, S => nx ρ S
  | x :: r, ρ, S => body x ρ S fun ρ S => loopS body nx r ρ S
/-- all readings of an expression: value, test, list of values, what is walked, target, targets, bound of a slice -/
structure R where
  e : Env → Store → QD → QD → Prop
  t : Env → Store → QB → QD → Prop
  l : Env → Store → QL → QD → Prop
  i : Env → Store → QL → QD → Prop
  g : D → Env → Store → (Env → Store → Prop) → QD → Prop
  gs : List D → Env → Store → (Env → Store → Prop) → QD → Prop
  o : Env → Store → (Option Int → Store → Prop) → QD → Prop
  gx : D → D → Env → Store → (Env → Store → Prop) → Prop
section
variable (P : Prog) (F : Fsem) (Γ : List Clo)
def mkR (e : Env → Store → QD → QD → Prop) : R where
  e := e
  t := fun ρ S Q E => e ρ S (fun d S => truX P F Γ d S Q E) E
  l := fun _ _ _ _ => False
  i := fun ρ S Q E => e ρ S (fun d S => itemsD d fun xs => Q xs S) E
  g := fun _ _ _ _ _ => False
  gs := fun _ _ _ _ _ => False
  o := fun ρ S Q E => e ρ S (fun d S => match d with
    | .int k => Q (some k) S
    | _ => False) E
  gx := fun _ _ _ _ _ => False
def nvr : Env → Store → QD → QD → Prop := fun _ _ _ _ => False
def cmpR (e : Env → Store → QB → QD → Prop) : R :=
  { mkR P F Γ (fun ρ S Q E => e ρ S (fun b S => Q (.bool b) S) E) with t := e }
def walkR (i : Env → Store → QL → QD → Prop) : R := { mkR P F Γ nvr with i := i }
def ev : Ex → R
  | .nil => { mkR P F Γ nvr with l := fun _ S Q _ => Q [] S, gs := fun ds ρ S k _ => ds = [] ∧ k ρ S, o := fun _ S Q _ => Q none S }
  | .cons a r =>
    { mkR P F Γ nvr with
      l := fun ρ S Q E => (ev a).e ρ S (fun d S => (ev r).l ρ S (fun ds S => Q (d :: ds) S) E) E
      gs := fun ds ρ S k E => match ds with
        | d :: ds => (ev a).g d ρ S (fun ρ S => (ev r).gs ds ρ S k E) E
        | [] => False }
  | .cst c => mkR P F Γ fun _ S Q _ => Q c.d S
  | .var n => { mkR P F Γ (fun ρ S Q _ => getV ρ n fun d => Q d S) with
      g := fun d ρ S k _ => k (ρ.set n (some d)) S
      gx := fun iv v ρ S k => setIxD ρ n iv v S k }
  | .bvar n => mkR P F Γ fun ρ S Q _ => getB ρ n fun d => Q d S
  | .lend n => mkR P F Γ fun ρ S Q _ => getL ρ n fun d => Q d S
  | .mkown a => mkR P F Γ fun ρ S Q E => (ev a).e ρ S (fun d S => match d with
    | .lst xs => Q (.own xs) S
    | _ => False) E
  | .glob n => mkR P F Γ fun _ S Q _ => match P.consts[n]? with
    | some d => Q d S
    | none => False
  | .bin o a b => mkR P F Γ fun ρ S Q E => (ev a).e ρ S (fun x S => (ev b).e ρ S (fun y S => binD o x y fun z => Q z S) E) E
  | .neg a => mkR P F Γ fun ρ S Q E => (ev a).e ρ S (fun x S => match x with
    | .int k => Q (.int (-k)) S
    | _ => False) E
  | .cmp o a b => cmpR P F Γ fun ρ S Q E => (ev a).e ρ S (fun x S => (ev b).e ρ S (fun y S => cmpX P F Γ o x y S Q E) E) E
  | .cmp2 o o2 a b c => cmpR P F Γ fun ρ S Q E => (ev a).e ρ S (fun x S => (ev b).e ρ S (fun y S => cmpX P F Γ o x y S (fun k S =>
      if k = true then (ev c).e ρ S (fun z S => cmpX P F Γ o2 y z S Q E) E else Q false S) E) E) E
  | .and a b =>
    { mkR P F Γ (fun ρ S Q E => (ev a).e ρ S (fun x S => match x with
        | .bool k => if k = true then (ev b).e ρ S Q E else Q (.bool false) S
        | _ => False) E) with
      t := fun ρ S Q E => (ev a).t ρ S (fun k S => if k = true then (ev b).t ρ S Q E else Q false S) E }
  | .or a b =>
    { mkR P F Γ (fun ρ S Q E => (ev a).e ρ S (fun x S => match x with
        | .bool k => if k = true then Q (.bool true) S else (ev b).e ρ S Q E
        | _ => False) E) with
      t := fun ρ S Q E => (ev a).t ρ S (fun k S => if k = true then Q true S else (ev b).t ρ S Q E) E }
  | .not a =>
    { mkR P F Γ (fun ρ S Q E => (ev a).e ρ S (fun x S => match x with
        | .bool k => Q (.bool (!k)) S
        | _ => False) E) with
      t := fun ρ S Q E => (ev a).t ρ S (fun k S => Q (!k) S) E }
  | .ife c a b => mkR P F Γ fun ρ S Q E => (ev c).t ρ S (fun k S => if k = true then (ev a).e ρ S Q E else (ev b).e ρ S Q E) E
  | .lst es => mkR P F Γ fun ρ S Q E => (ev es).l ρ S (fun ds S => ds.length ≤ sl ∧ Q (.lst ds) S) E
  | .tup es =>
    { mkR P F Γ (fun ρ S Q E => (ev es).l ρ S (fun ds S => ds.length ≤ sl ∧ Q (.tup ds) S) E) with
      g := fun d ρ S k E => match d with
        | .tup ds => ds.length = exLen es ∧ (ev es).gs ds ρ S k E
        | .lst ds => ds.length = exLen es ∧ (ev es).gs ds ρ S k E
        | _ => False }
  | .lstar es x => mkR P F Γ fun ρ S Q E => (ev es).l ρ S (fun ds S => (ev x).e ρ S (fun d S => match d with
    | .tup xs => ds.length + xs.length ≤ sl ∧ Q (.lst (ds ++ xs)) S
    | .lst xs => ds.length + xs.length ≤ sl ∧ Q (.lst (ds ++ xs)) S
    | _ => False) E) E
  | .dict ks vs => mkR P F Γ nvr
  | .ix a i => { mkR P F Γ (fun ρ S Q E => (ev a).e ρ S (fun x S => (ev i).e ρ S (fun y S =>
        match x with
        | .ptr p => (match S p with
          | some (.lst xs) => ixD (.lst xs) y fun z => Q z S
          | _ => False)
        | x => ixD x y fun z => Q z S) E) E) with
      g := fun d ρ S k E => slotOf a ρ = true ∧ (ev i).e ρ S (fun iv S => (ev a).gx iv d ρ S k) E }
  | .sl a lo hi => mkR P F Γ fun ρ S Q E => (ev a).e ρ S (fun x S => (ev lo).o ρ S (fun l S => (ev hi).o ρ S (fun h S => slD x l h fun z => Q z S) E) E) E
  | .rev a => mkR P F Γ fun ρ S Q E => (ev a).e ρ S (fun x S => revD x fun z => Q z S) E
  | .attr a n => mkR P F Γ fun ρ S Q E => (ev a).e ρ S (fun x S => attrD P F Γ n x S Q E) E
  | .call f es kes ks => mkR P F Γ fun ρ S Q E => (ev es).l ρ S (fun ds S => (ev kes).l ρ S (fun es S => es.length = ks.length ∧ callD P F Γ f ks (ds ++ es) S Q E) E) E
  | .callv i es => mkR P F Γ fun ρ S Q E => match ρ[i]? with
    | some (some (.clo j)) => (match Γ[j]? with
      | some c => (ev es).l ρ S (fun ds S => c ds S Q E) E
      | none => False)
    | _ => False
  | .callc f np body cap ns es ks => mkR P F Γ fun ρ S Q E =>
      (ev es).l ρ S (fun ds S => callD P F (Γ ++ [fun args S Q E => args.length = np ∧ (ev body).e (startE ns args |> fun ρ' => cap.foldl (fun ρ' p => match ρ[p.1]? with
        | some v => ρ'.set p.2 v
        | none => ρ') ρ') S Q E]) f ks (.clo Γ.length :: ds) S Q E) E
  | .mk c es kes ks => mkR P F Γ fun ρ S Q E => (ev es).l ρ S (fun ds S => (ev kes).l ρ S (fun es S => es.length = ks.length ∧ mkD P F Γ c ks (ds ++ es) S Q E) E) E
  | .bi b es => mkR P F Γ fun ρ S Q E => (ev es).l ρ S (fun ds S => biX P F Γ b ds S Q E) E
  | .mt m a es => mkR P F Γ fun ρ S Q E => (ev a).e ρ S (fun x S => mtAble m x = true ∧ (ev es).l ρ S (fun ds S => mtD m x ds fun z => Q z S) E) E
  | .umt a n es kes ks => mkR P F Γ fun ρ S Q E => (ev a).e ρ S (fun x S => (ev es).l ρ S (fun ds S => (ev kes).l ρ S (fun es S => es.length = ks.length ∧ umtD P F Γ n ks x (ds ++ es) S Q E) E) E) E
  | .cmt c f es kes ks => mkR P F Γ fun ρ S Q E => (ev es).l ρ S (fun ds S => (ev kes).l ρ S (fun es S => es.length = ks.length ∧ callD P F Γ f ks (.cls c :: (ds ++ es)) S Q E) E) E
  | .isi a ts => mkR P F Γ fun ρ S Q E => (ev a).e ρ S (fun x S => (isAble x = true ∧ clsIn P x = true) ∧ Q (.bool (ts.any (tyD x))) S) E
  | .comp t it c x own => mkR P F Γ fun ρ S Q E => (ev it).i ρ S (fun xs S =>
      loopC (fun d S k => (ev t).g d (wipe own ρ) S k fun _ _ => False) (fun ρ S Q => (ev c).t ρ S Q fun _ _ => False) (fun ρ S Q => (ev x).e ρ S Q fun _ _ => False) xs [] S fun ds S => Q (.lst ds) S) E
  | .comp2 t it c t2 it2 c2 x own own2 => mkR P F Γ fun ρ S Q E => (ev it).i ρ S (fun xs S =>
      loopC2 (fun d S k => (ev t).g d (wipe own ρ) S k fun _ _ => False) (fun ρ S Q => (ev c).t ρ S Q fun _ _ => False)
        (fun ρ acc S Q => (ev it2).i ρ S (fun ys S => loopC (fun d S k => (ev t2).g d (wipe own2 ρ) S k fun _ _ => False) (fun ρ S Q => (ev c2).t ρ S Q fun _ _ => False) (fun ρ S Q => (ev x).e ρ S Q fun _ _ => False) ys acc S Q) fun _ _ => False)
        xs [] S fun ds S => Q (.lst ds) S) E
  | .dcomp t it k v own => mkR P F Γ nvr
  | .yes => cmpR P F Γ fun _ S Q _ => Q true S
  | .rng1 a => walkR P F Γ fun ρ S Q E => (ev a).e ρ S (fun x S => match x with
    | .int j => (-(2 ^ 62) ≤ j ∧ j < 2 ^ 62) ∧ Q ((List.range j.toNat).map fun (k : Nat) => D.int (0 + (k : Int))) S
    | _ => False) E
  | .rng2 a b => walkR P F Γ fun ρ S Q E => (ev a).e ρ S (fun x S => (ev b).e ρ S (fun y S => match x, y with
    | .int i, .int j => (-(2 ^ 62) ≤ i ∧ i < 2 ^ 62 ∧ -(2 ^ 62) ≤ j ∧ j < 2 ^ 62) ∧ Q ((List.range (j - i).toNat).map fun (k : Nat) => D.int (i + (k : Int))) S
    | _, _ => False) E) E
  | .enum a => walkR P F Γ fun ρ S Q E => (ev a).e ρ S (fun x S => match x with
    | .lst xs => Q (enumL 0 xs) S
    | .tup xs => Q (enumL 0 xs) S
    | _ => False) E
  | .zip es => walkR P F Γ fun ρ S Q E => (ev es).l ρ S (fun ds S => match ds with
    | [.lst xs, .lst ys] => Q (zipL [xs, ys]) S
    | [.tup xs, .tup ys] => Q (zipL [xs, ys]) S
    | _ => False) E
  | .items a => walkR P F Γ fun ρ S Q E => (ev a).e ρ S (fun x S => match x with
    | .dct kvs => Q (kvs.map fun p => .tup [p.1, p.2]) S
    | _ => False) E
  | .listof it => mkR P F Γ fun ρ S Q E => (ev it).i ρ S (fun xs S => xs.length ≤ sl ∧ Q (.lst xs) S) E
  | .tupof it => mkR P F Γ fun ρ S Q E => (ev it).i ρ S (fun xs S => xs.length ≤ sl ∧ Q (.tup xs) S) E
  | .sortk a body cap ns => mkR P F Γ nvr
  | .box x => mkR P F Γ fun ρ S Q E => (ev x).e ρ S (fun d S => match d with
    | .lst xs => ∀ a : Nat, S a = none → Q (.ptr a) (S.put a (.lst xs))
    | _ => False) E
  | .isx a k s l => mkR P F Γ fun ρ S Q E => (ev a).e ρ S (fun x S => match x with
    | .exc c _ => (P.exs.lookup c).isSome = true ∧ Q (.bool (l.contains c)) S
    | _ => False) E
  | .attx a n => mkR P F Γ fun ρ S Q E => (ev a).e ρ S (fun x S => match x with
    | .exc c ds => (match P.exs.lookup c with
      | some fs => (match fs.idxOf? n with
        | some i => (match ds[i]? with
          | some v => Q v S
          | none => False)
        | none => False)
      | none => False)
    | _ => False) E
  | .lamc f body => mkR P F Γ fun ρ S Q E => F [fun args S Q E => args = [] ∧ (ev body).e ρ S Q E] f [.clo 0] S Q E
  | .sdl l => mkR P F Γ fun _ S Q _ => Q (.sd l) S
  | .up a => mkR P F Γ fun ρ S Q E => (ev a).e ρ S (fun x S => match x with
    | .str s => s.length ≤ 5592405 ∧ Q (.str (Txt.upper s)) S
    | _ => False) E
  | .srl x => mkR P F Γ fun ρ S Q E => (ev x).e ρ S (fun d S => srD d fun d => Q d S) E
  | .stro a => mkR P F Γ fun ρ S Q E => (ev a).e ρ S (fun x S => ownX P F Γ (·.str) x [] S (strQ Q)) E
  | .eqo ne a b => cmpR P F Γ fun ρ S Q E => (ev a).e ρ S (fun x S => (ev b).e ρ S (fun y S => sameC x y S ∧ ownX P F Γ (·.eq) x [y] S (boolQ ne Q)) E) E
  | .inso ng a b => cmpR P F Γ fun ρ S Q E => (ev a).e ρ S (fun x S => (ev b).e ρ S (fun y S => ownX P F Γ (·.has) y [x] S (boolQ ng Q)) E) E
  | .boolo a => mkR P F Γ fun ρ S Q E => (ev a).e ρ S (fun x S => ownX P F Γ (·.tru) x [] S (boolQ false fun b S => Q (.bool b) S)) E
  | .mkv c i es => mkR P F Γ fun ρ S Q E => match ρ[i]? with
    | some (some (.cls c')) => c' = c ∧ (ev es).l ρ S (fun ds S => mkD P F Γ c [] ds S Q E) E
    | _ => False
/-- a self under construction, or an object that changes: x.n = v -/
def setAtD (ρ : Env) (i n : Nat) (v : D) (S : Store) (Q : Store → Prop) : Prop :=
  match ρ[i]? with
  | some (some (.ptr a)) => (match S a with
    | some (.ins c fs) => (match P.cls[c]? with
      | some k => (match k.at n with
        | some (.fld j) => if j = fs.length then Q (S.put a (.ins c (fs ++ [v]))) else j < fs.length ∧ Q (S.put a (.ins c (fs.set j v)))
        | _ => False)
      | none => False)
    | _ => False)
  | _ => False
def appPre (ρ : Env) (i : Nat) (S : Store) : Bool :=
  match ρ[i]? with
  | some (some (.own _)) => true
  | some (some (.ptr a)) => (match S a with
    | some (.lst _) => true
    | _ => false)
  | _ => false
def evS : Sx → Env → Store → Ko → Prop
  | .nil, ρ, S, K => K.nx ρ S
  | .seq s r, ρ, S, K => evS s ρ S { K with nx := fun ρ S => evS r ρ S K }
  | .asg t e, ρ, S, K => (ev P F Γ e).e ρ S (fun d S => (ev P F Γ t).g d ρ S K.nx fun _ _ => False) (K.ex ρ)
  | .par is es, ρ, S, K => (ev P F Γ es).l ρ S (fun ds S => ds.length = is.length ∧ K.nx (setAll is ds ρ) S) (K.ex ρ)
  | .setAt i n e, ρ, S, K => (ev P F Γ e).e ρ S (fun d S => setAtD P ρ i n d S fun S => K.nx ρ S) (K.ex ρ)
  | .aug i e, ρ, S, K => getV ρ i fun x => (ev P F Γ e).e ρ S (fun y S => match x, y with
    | .int i', .int j' => K.nx (ρ.set i (some (.int (i' + j')))) S
    | _, _ => False) (K.ex ρ)
  | .app i e, ρ, S, K => appPre ρ i S = true ∧ (ev P F Γ e).e ρ S (fun y S => match ρ[i]? with
    | some (some (.own xs)) => xs.length < sl ∧ K.nx (ρ.set i (some (.own (xs ++ [y])))) S
    | some (some (.ptr a)) => (match S a with
      | some (.lst xs) => xs.length < sl ∧ K.nx ρ (S.put a (.lst (xs ++ [y])))
      | _ => False)
    | _ => False) (K.ex ρ)
  | .ins i a e, ρ, S, K => False
  | .pop i, ρ, S, K => False
  | .expr e, ρ, S, K => (ev P F Γ e).e ρ S (fun _ S => K.nx ρ S) (K.ex ρ)
  | .ite c a b, ρ, S, K => (ev P F Γ c).t ρ S (fun k S => if k = true then evS a ρ S K else evS b ρ S K) (K.ex ρ)
  | .for_ t it b, ρ, S, K => (ev P F Γ it).i ρ S (fun xs S => loopS (fun x ρ S k => (ev P F Γ t).g x ρ S (fun ρ S => evS b ρ S { K with nx := k, ct := k, bk := K.nx }) fun _ _ => False) K.nx xs ρ S) (K.ex ρ)
  | .forz t i b, ρ, S, K => (match ρ[i]? with
    | some (some (.own xs)) => loopS (fun x ρ S k => (ev P F Γ t).g x ρ S (fun ρ S => evS b ρ S { K with nx := k, ct := k, bk := K.nx }) fun _ _ => False) K.nx xs (ρ.set i (some (.lst xs))) S
    | _ => False)
  | .while_ c b, ρ, S, K => ∃ W : Nat → Env → Store → Prop, (∃ m, W m ρ S) ∧ ∀ m ρ S, W m ρ S →
      (ev P F Γ c).t ρ S (fun k S => if k = true then ∃ N : Env → Store → Prop, (∀ ρ' S', N ρ' S' → ∃ m', m' < m ∧ W m' ρ' S') ∧ evS b ρ S { K with nx := N, ct := N, bk := K.nx } else K.nx ρ S) (K.ex ρ)
  | .brk, ρ, S, K => K.bk ρ S
  | .cont, ρ, S, K => K.ct ρ S
  | .pass, ρ, S, K => K.nx ρ S
  | .ret e, ρ, S, K => (ev P F Γ e).e ρ S K.rt (K.ex ρ)
  | .retv i, ρ, S, K => (match ρ[i]? with
    | some (some (.own xs)) => K.rt (.lst xs) S
    | _ => False)
  | .raise c es, ρ, S, K => (ev P F Γ es).l ρ S (fun ds S => K.ex ρ (.exc c ds) S) (K.ex ρ)
  | .try_ b cs l x h, ρ, S, K => evS b ρ S { K with ex := fun ρ' d S' => match d with
    | .exc c ds => (P.exs.lookup c).isSome = true ∧ if l.contains c = true then
        evS h (ρ'.set x (some (.exc c ds))) S' { nx := fun _ _ => False, rt := fun d S2 => S2 = S' ∧ d.noX = true ∧ K.rt d S2, bk := fun _ _ => False, ct := fun _ _ => False, ex := fun _ _ _ => False }
      else K.ex ρ' d S'
    | _ => False }
  | .stop, _, _, _ => False
end
/-- a def's run -/
def runF (P : Prog) (F : Fsem) (Γ : List Clo) (fn : Fn) (args : List D) (S : Store) (Q E : QD) : Prop :=
  args.length = fn.np ∧ evS P F Γ fn.body (startE fn.names.length args) S { nx := fun _ S => Q .none S, rt := Q, bk := fun _ _ => False, ct := fun _ _ => False, ex := fun _ => E }
/-- what a def's first value must be: a closure for one that calls it, an exception for one that asks it -/
def guardF (fn : Fn) (Γ : List Clo) (args : List D) (p : Prop) : Prop :=
  match fn.clo, fn.hot with
  | false, false => p
  | true, _ => (args = [.clo 0] ∧ Γ.length = 1) ∧ p
  | false, true => (∃ c ds r, args = .exc c ds :: r) ∧ p
theorem guardF_of {fn : Fn} {Γ : List Clo} {args : List D} {p : Prop} (h : guardF fn Γ args p) : p ∧ (fn.clo = true → args = [.clo 0] ∧ Γ.length = 1) ∧ (fn.clo = false → fn.hot = true → ∃ c ds r, args = .exc c ds :: r) := by
  unfold guardF at h
  split at h
  · rename_i h1 h2
    exact ⟨h, fun z => (by rw [h1] at z; cases z), fun _ z => (by rw [h2] at z; cases z)⟩
  · rename_i h1
    exact ⟨h.2, fun _ => h.1, fun z => (by rw [h1] at z; cases z)⟩
  · rename_i h1 h2
    exact ⟨h.2, fun z => (by rw [h1] at z; cases z), fun _ _ => h.1⟩
def Fs (P : Prog) : Nat → Fsem
  | 0 => fun _ _ _ _ _ _ => False
  | n + 1 => fun Γ f args S Q E => match P.fns[f]? with
    | some fn => guardF fn Γ args (runF P (Fs P n) Γ fn args S Q E)
    | none => False
end Sb
set_option linter.all false
set_option maxRecDepth 20000
set_option autoImplicit false
/-! A2: how data lie in the heap. -/
namespace Sb
open PySem L2
/-- who may change what stands there: no one, the def that runs (one slot of it), the store -/
inductive Kd where
  | sh | ow | ce | lc
  deriving DecidableEq
abbrev Um := Addr → Kd
def Um.set (U : Um) (a : Addr) (k : Kd) : Um := fun b => if b = a then k else U b
theorem Um.set_same {U : Um} {a : Addr} {k : Kd} : U.set a k a = k := if_pos rfl
theorem Um.set_ne {U : Um} {a b : Addr} {k : Kd} (h : b ≠ a) : U.set a k b = U b := if_neg h
/-- the classes: where they stand, their fields' names in order -/
structure CT where
  ad : Nat → Addr
  fl : Nat → List Str
  fa : Nat → Addr
  /-- the tables of code objects, and the names of what is in them -/
  tb : List (Addr × Str) := []
  /-- the exception that is handled: where it stands, its class, its dict -/
  hx : Option (Addr × Nat × Addr) := none
  /-- the closure that the def got: where it stands, its code object and its name -/
  cl : Option (Addr × Addr × Str) := none
section
variable (K : PySem.W.Frag) (ct : CT)
/-- a list, a tuple of the written part -/
def KL (K : PySem.W.Frag) (a : Addr) (xs : List V) : Prop := ∃ (o : Obj) (its : Array Value) (n : Nat), K.lookup a = some o ∧ o.cls = .type "list" ∧ o.dict = none ∧ o.data = .seq its n ∧ its.size ≤ sizeLine ∧ Vals xs its.toList
/-- a tuple's object without a dict of its own -/
def PlainT (o : Obj) : Prop := o.cls = .type "tuple" ∧ o.dict = none
mutual
inductive Dn (U : Um) (H : Hp) : V → D → Prop
  | non : Dn U H .non .none
  | bl (b : Bool) : Dn U H (.bl b) (.bool b)
  | int (i : Int) : Dn U H (.int i) (.int i)
  | str (x : Str) : Dn U H (.str x) (.str x)
  | lst {a : Addr} {xs : List V} {ds : List D} : U a = .sh → H a = some (.lst xs) → DnL U H xs ds → Dn U H (.ref a) (.lst ds)
  | tup {a : Addr} {o : Obj} {xs : List V} {ds : List D} : U a = .sh → H a = some (.frz o (.tup xs)) → PlainT o → DnL U H xs ds → Dn U H (.ref a) (.tup ds)
  | scr {a : Addr} {ns : List Int} : (U a = .sh ∧ Rd H a (.lst (ns.map V.int))) ∨ KL K a (ns.map V.int) → Dn U H (.ref a) (.scr ns)
  | obj {a dx : Addr} {c : Nat} {xs : List V} {ds : List D} : U a = .sh → H a = some (.ins (ct.ad c) dx ((ct.fl c).zip xs)) → xs.length = (ct.fl c).length → DnL U H xs ds → Dn U H (.ref a) (.obj c ds)
  | cls (c : Nat) : Dn U H (.ref (ct.ad c)) (.cls c)
  | sd {a : Addr} {l : List (Str × Int)} : U a = .sh → H a = some (.dK (l.map fun p => (.inr p.1, .int p.2))) → Dn U H (.ref a) (.sd l)
  | ptr {a : Addr} : U a = .ce → Dn U H (.ref a) (.ptr a)
  | exc {a dx : Addr} {c : Nat} {xs : List V} {ds : List D} : ct.hx = some (a, c, dx) → U dx = .sh → H dx = some (.xd ((ct.fl c).zip xs)) → xs.length = (ct.fl c).length → DnL U H xs ds → Dn U H (.ref a) (.exc c ds)
inductive DnL (U : Um) (H : Hp) : List V → List D → Prop
  | nil : DnL U H [] []
  | cons {v : V} {vs : List V} {d : D} {ds : List D} : Dn U H v d → DnL U H vs ds → DnL U H (v :: vs) (d :: ds)
end
/-- as a value that is only looked at: a list of the def's own, too -/
inductive Bn (U : Um) (H : Hp) : V → D → Prop
  | of {v : V} {d : D} : Dn K ct U H v d → Bn U H v d
  | lst {a : Addr} {xs : List V} {ds : List D} : U a = .ow → H a = some (.lst xs) → DnL K ct U H xs ds → Bn U H (.ref a) (.lst ds)
inductive BnL (U : Um) (H : Hp) : List V → List D → Prop
  | nil : BnL U H [] []
  | cons {v : V} {vs : List V} {d : D} {ds : List D} : Bn K ct U H v d → BnL U H vs ds → BnL U H (v :: vs) (d :: ds)
/-- what the store tells -/
def CellOk (U : Um) (H : Hp) (a : Addr) : Cell → Prop
  | .lst ds => ∃ xs, H a = some (.lst xs) ∧ DnL K ct U H xs ds
  | .ins c fs => ∃ dx xs, H a = some (.ins (ct.ad c) dx ((ct.fl c).zip xs)) ∧ xs.length ≤ (ct.fl c).length ∧ DnL K ct U H xs fs
  | .dct _ => False
/-- a table of code objects -/
def TabU (U : Um) (H : Hp) (p : Addr × Str) : Prop := ∃ ps : Array Value, H p.1 = some (.tbl ps) ∧ PySem.TriplesOk ps.toList ∧ ∀ (pos : Pos) (cv : Value), codeAmong pos ps.toList = some cv → ∃ c, cv = .ref c ∧ H c = some (LamX.CodeO c p.2) ∧ U c = .sh
def CT.tab (ct : CT) (a : Addr) : Prop := a ∈ ct.tb.map (·.1)
structure Ok (U : Um) (S : Store) (H : Hp) : Prop where
  ce : ∀ a, U a = .ce ↔ (S a ≠ none ∨ ct.tab a)
  cell : ∀ a c, S a = some c → CellOk K ct U H a c
  there : ∀ a, U a ≠ .sh → H a ≠ none
  tab : ∀ p, p ∈ ct.tb → TabU U H p
end
section
variable {K : PySem.W.Frag} {ct : CT}
theorem Ok.tce {U : Um} {S : Store} {H : Hp} (o : Ok K ct U S H) {p : Addr × Str} (h : p ∈ ct.tb) : U p.1 = .ce := (o.ce p.1).mpr (.inr (List.mem_map_of_mem h))
theorem Ok.noS {U : Um} {S : Store} {H : Hp} (o : Ok K ct U S H) {a : Addr} (h : U a ≠ .ce) : S a = none := by
  cases e : S a with
  | none => rfl
  | some c => exact absurd ((o.ce a).mpr (.inl (by rw [e]; simp))) h
theorem Ok.cellT {U : Um} {S : Store} {H : Hp} (o : Ok K ct U S H) {a : Addr} {c : Cell} (h : S a = some c) : ¬ ct.tab a := fun z => by
  obtain ⟨p, hp, e⟩ := List.mem_map.mp z
  obtain ⟨ps, h1, _⟩ := o.tab p hp
  rw [e] at h1
  have q := o.cell a c h
  cases c with
  | lst ds => obtain ⟨xs, h2, _⟩ := q; rw [h1] at h2; cases h2
  | ins k fs => obtain ⟨dx, xs, h2, _⟩ := q; rw [h1] at h2; cases h2
  | dct _ => exact q
theorem Ok.tblT {U : Um} {S : Store} {H : Hp} (o : Ok K ct U S H) {a : Addr} {u : HO} (h : H a = some u) (n : ∀ ps, u ≠ .tbl ps) : ¬ ct.tab a := fun z => by
  obtain ⟨p, hp, e⟩ := List.mem_map.mp z
  obtain ⟨ps, h1, _⟩ := o.tab p hp
  rw [e, h] at h1
  exact n ps (Option.some.inj h1)
theorem Ok.newT {U : Um} {S : Store} {H : Hp} (o : Ok K ct U S H) {a : Addr} (h : H a = none) : ¬ ct.tab a := fun z => by
  obtain ⟨p, hp, e⟩ := List.mem_map.mp z
  obtain ⟨ps, h1, _⟩ := o.tab p hp
  rw [e, h] at h1; cases h1
theorem CT.ntab {a : Addr} (h : ¬ ct.tab a) {p : Addr × Str} (hp : p ∈ ct.tb) : p.1 ≠ a := fun z => h (by rw [← z]; exact List.mem_map_of_mem hp)
theorem Ok.noT {U : Um} {S : Store} {H : Hp} (o : Ok K ct U S H) {a : Addr} (h : U a ≠ .ce) : ¬ ct.tab a := fun z => h ((o.ce a).mpr (.inr z))
end
/-- what an expression's run leaves -/
structure Stp (U : Um) (H : Hp) (U' : Um) (H' : Hp) : Prop where
  st : ∀ a o, H a = some o → U a ≠ .ce → H' a = some o
  un : ∀ a, H a ≠ none → U' a = U a
theorem Stp.refl {U : Um} {H : Hp} : Stp U H U H := ⟨fun _ _ h _ => h, fun _ _ => rfl⟩
theorem Stp.trans {K : PySem.W.Frag} {ct : CT} {U U1 U2 : Um} {S1 : Store} {H H1 H2 : Hp} (a : Stp U H U1 H1) (o1 : Ok K ct U1 S1 H1) (b : Stp U1 H1 U2 H2) : Stp U H U2 H2 := by
  have key : ∀ x, H x ≠ none → H1 x ≠ none := fun x hx => by
    by_cases hc : U x = .ce
    · exact o1.there x (by rw [a.un x hx, hc]; decide)
    · cases e : H x with
      | none => exact absurd e hx
      | some o => rw [a.st x o e hc]; simp
  refine ⟨fun x o e hc => ?_, fun x hx => ?_⟩
  · exact b.st x o (a.st x o e hc) (by rw [a.un x (by rw [e]; simp)]; exact hc)
  · rw [b.un x (key x hx), a.un x hx]
theorem Stp.dom {K : PySem.W.Frag} {ct : CT} {U U1 : Um} {S1 : Store} {H H1 : Hp} (a : Stp U H U1 H1) (o1 : Ok K ct U1 S1 H1) {x : Addr} (hx : H x ≠ none) : H1 x ≠ none := by
  by_cases hc : U x = .ce
  · exact o1.there x (by rw [a.un x hx, hc]; decide)
  · cases e : H x with
    | none => exact absurd e hx
    | some o => rw [a.st x o e hc]; simp
/-- everything stays -/
structure Kp (U : Um) (H : Hp) (U' : Um) (H' : Hp) : Prop where
  u : U' = U
  st : ∀ a o, H a = some o → H' a = some o
theorem Kp.refl {U : Um} {H : Hp} : Kp U H U H := ⟨rfl, fun _ _ h => h⟩
theorem Kp.stp {U U' : Um} {H H' : Hp} (k : Kp U H U' H') : Stp U H U' H' := ⟨fun a o h _ => k.st a o h, fun a _ => by rw [k.u]⟩
/-- what a statement's run leaves: what no one may change -/
def StW (U : Um) (H : Hp) (U' : Um) (H' : Hp) : Prop := ∀ a o, H a = some o → U a = .sh → H' a = some o ∧ U' a = .sh
theorem StW.refl {U : Um} {H : Hp} : StW U H U H := fun _ _ h k => ⟨h, k⟩
theorem StW.trans {U U1 U2 : Um} {H H1 H2 : Hp} (a : StW U H U1 H1) (b : StW U1 H1 U2 H2) : StW U H U2 H2 := fun x o e k => b x o (a x o e k).1 (a x o e k).2
theorem Stp.w {U U1 : Um} {H H1 : Hp} (a : Stp U H U1 H1) : StW U H U1 H1 := fun x o e k => ⟨a.st x o e (by rw [k]; decide), by rw [a.un x (by rw [e]; simp), k]⟩
section
variable {K : PySem.W.Frag} {ct : CT}
theorem Rd.st {U U' : Um} {H H' : Hp} {a : Addr} {u : HO} (s : StW U H U' H') (k : U a = .sh) (r : Rd H a u) : U' a = .sh ∧ Rd H' a u := by
  rcases r with r | ⟨o, r⟩
  · exact ⟨(s a _ r k).2, .inl (s a _ r k).1⟩
  · exact ⟨(s a _ r k).2, .inr ⟨o, (s a _ r k).1⟩⟩
theorem Rd.ne {H : Hp} {a : Addr} {u : HO} (r : Rd H a u) : H a ≠ none := by rcases r with r | ⟨o, r⟩ <;> (rw [r]; simp)
mutual
/-- data stay: what is read is not changed; addresses of the store stay of the store -/
theorem Dn.st {U U' : Um} {H H' : Hp} (s : StW U H U' H') (c : ∀ a, U a = .ce → U' a = .ce) : ∀ {v : V} {d : D}, Dn K ct U H v d → Dn K ct U' H' v d
  | _, _, .non => .non
  | _, _, .bl b => .bl b
  | _, _, .int i => .int i
  | _, _, .str x => .str x
  | _, _, .lst k r l => .lst (s _ _ r k).2 (s _ _ r k).1 (DnL.st s c l)
  | _, _, .tup k r p l => .tup (s _ _ r k).2 (s _ _ r k).1 p (DnL.st s c l)
  | _, _, .scr (.inl ⟨k, r⟩) => .scr (.inl (Rd.st s k r))
  | _, _, .scr (.inr r) => .scr (.inr r)
  | _, _, .obj k h n l => .obj (s _ _ h k).2 (s _ _ h k).1 n (DnL.st s c l)
  | _, _, .cls c => .cls c
  | _, _, .sd k h => .sd (s _ _ h k).2 (s _ _ h k).1
  | _, _, .ptr k => .ptr (c _ k)
  | _, _, .exc e k h n l => .exc e (s _ _ h k).2 (s _ _ h k).1 n (DnL.st s c l)
theorem DnL.st {U U' : Um} {H H' : Hp} (s : StW U H U' H') (c : ∀ a, U a = .ce → U' a = .ce) : ∀ {vs : List V} {ds : List D}, DnL K ct U H vs ds → DnL K ct U' H' vs ds
  | _, _, .nil => .nil
  | _, _, .cons h t => .cons (Dn.st s c h) (DnL.st s c t)
end
theorem Stp.ce {S : Store} {U U1 : Um} {H H1 : Hp} (a : Stp U H U1 H1) (o : Ok K ct U S H) : ∀ x, U x = .ce → U1 x = .ce := fun x h => by
  rw [a.un x (o.there x (by rw [h]; decide)), h]
theorem Dn.stp {S : Store} {U U' : Um} {H H' : Hp} {v : V} {d : D} (h : Dn K ct U H v d) (o : Ok K ct U S H) (s : Stp U H U' H') : Dn K ct U' H' v d := Dn.st s.w (s.ce o) h
theorem DnL.stp {S : Store} {U U' : Um} {H H' : Hp} {vs : List V} {ds : List D} (h : DnL K ct U H vs ds) (o : Ok K ct U S H) (s : Stp U H U' H') : DnL K ct U' H' vs ds := DnL.st s.w (s.ce o) h
theorem Bn.stp {S : Store} {U U' : Um} {H H' : Hp} {v : V} {d : D} (h : Bn K ct U H v d) (o : Ok K ct U S H) (s : Stp U H U' H') : Bn K ct U' H' v d := by
  cases h with
  | of h => exact .of (h.stp o s)
  | lst k r l =>
    exact .lst (by rw [s.un _ (by rw [r]; simp), k]) (s.st _ _ r (by rw [k]; decide)) (l.stp o s)
theorem BnL.stp {S : Store} {U U' : Um} {H H' : Hp} : ∀ {vs : List V} {ds : List D}, BnL K ct U H vs ds → Ok K ct U S H → Stp U H U' H' → BnL K ct U' H' vs ds
  | _, _, .nil, _, _ => .nil
  | _, _, .cons h t, o, s => .cons (h.stp o s) (BnL.stp t o s)
theorem DnL.bn {U : Um} {H : Hp} : ∀ {vs : List V} {ds : List D}, DnL K ct U H vs ds → BnL K ct U H vs ds
  | _, _, .nil => .nil
  | _, _, .cons h t => .cons (.of h) (DnL.bn t)
theorem DnL.length {U : Um} {H : Hp} : ∀ {vs : List V} {ds : List D}, DnL K ct U H vs ds → vs.length = ds.length
  | _, _, .nil => rfl
  | _, _, .cons _ t => by rw [List.length_cons, List.length_cons, DnL.length t]
theorem DnL.get {U : Um} {H : Hp} : ∀ {vs : List V} {ds : List D} (i : Nat) {d : D}, DnL K ct U H vs ds → ds[i]? = some d → ∃ v, vs[i]? = some v ∧ Dn K ct U H v d
  | _, _, i, _, .nil, e => by simp at e
  | _, _, 0, _, .cons h _, e => by simp at e; subst e; exact ⟨_, rfl, h⟩
  | _, _, i + 1, _, .cons _ t, e => by
    obtain ⟨v, h1, h2⟩ := DnL.get i t (by simpa using e)
    exact ⟨v, by simpa using h1, h2⟩
theorem DnL.getV {U : Um} {H : Hp} : ∀ {vs : List V} {ds : List D} (i : Nat) {v : V}, DnL K ct U H vs ds → vs[i]? = some v → ∃ d, ds[i]? = some d ∧ Dn K ct U H v d
  | _, _, i, _, .nil, e => by simp at e
  | _, _, 0, _, .cons h _, e => by simp at e; subst e; exact ⟨_, rfl, h⟩
  | _, _, i + 1, _, .cons _ t, e => by
    obtain ⟨v, h1, h2⟩ := DnL.getV i t (by simpa using e)
    exact ⟨v, by simpa using h1, h2⟩
theorem DnL.append {U : Um} {H : Hp} : ∀ {vs ws : List V} {ds es : List D}, DnL K ct U H vs ds → DnL K ct U H ws es → DnL K ct U H (vs ++ ws) (ds ++ es)
  | _, _, _, _, .nil, t => t
  | _, _, _, _, .cons h r, t => .cons h (DnL.append r t)
theorem DnL.take {U : Um} {H : Hp} : ∀ {vs : List V} {ds : List D} (n : Nat), DnL K ct U H vs ds → DnL K ct U H (vs.take n) (ds.take n)
  | _, _, 0, _ => .nil
  | _, _, _ + 1, .nil => .nil
  | _, _, n + 1, .cons h t => .cons h (DnL.take n t)
theorem DnL.drop {U : Um} {H : Hp} : ∀ {vs : List V} {ds : List D} (n : Nat), DnL K ct U H vs ds → DnL K ct U H (vs.drop n) (ds.drop n)
  | _, _, 0, h => h
  | _, _, _ + 1, .nil => .nil
  | _, _, n + 1, .cons _ t => DnL.drop n t
theorem DnL.set {U : Um} {H : Hp} {v : V} {d : D} (r : Dn K ct U H v d) : ∀ {vs : List V} {ds : List D} (n : Nat), DnL K ct U H vs ds → DnL K ct U H (vs.set n v) (ds.set n d)
  | _, _, _, .nil => .nil
  | _, _, 0, .cons _ t => .cons r t
  | _, _, n + 1, .cons h t => .cons h (DnL.set r n t)
theorem DnL.reverse {U : Um} {H : Hp} : ∀ {vs : List V} {ds : List D}, DnL K ct U H vs ds → DnL K ct U H vs.reverse ds.reverse
  | _, _, .nil => .nil
  | _, _, .cons h t => by rw [List.reverse_cons, List.reverse_cons]; exact (DnL.reverse t).append (.cons h .nil)
theorem Bn.seqL {U : Um} {H : Hp} {v : V} {ds : List D} (h : Bn K ct U H v (.lst ds)) : ∃ a xs, v = .ref a ∧ H a = some (.lst xs) ∧ DnL K ct U H xs ds := by
  cases h with
  | of h => cases h with
    | lst k r l => exact ⟨_, _, rfl, r, l⟩
  | lst k r l => exact ⟨_, _, rfl, r, l⟩
theorem Bn.seqT {U : Um} {H : Hp} {v : V} {ds : List D} (h : Bn K ct U H v (.tup ds)) : ∃ a o xs, v = .ref a ∧ U a = .sh ∧ H a = some (.frz o (.tup xs)) ∧ PlainT o ∧ DnL K ct U H xs ds := by
  cases h with
  | of h => cases h with
    | tup k r p l => exact ⟨_, _, _, rfl, k, r, p, l⟩
theorem Bn.scr {U : Um} {H : Hp} {v : V} {ns : List Int} (h : Bn K ct U H v (.scr ns)) : ∃ a, v = .ref a ∧ SqL K H a (ns.map V.int) := by
  cases h with
  | of h => cases h with
    | scr k =>
      rcases k with ⟨_, r⟩ | r
      · exact ⟨_, rfl, .inl r⟩
      · exact ⟨_, rfl, .inr r⟩
theorem Bn.int {U : Um} {H : Hp} {v : V} {i : Int} (h : Bn K ct U H v (.int i)) : v = .int i := by
  cases h with
  | of h => cases h; rfl
theorem Bn.bl {U : Um} {H : Hp} {v : V} {i : Bool} (h : Bn K ct U H v (.bool i)) : v = .bl i := by
  cases h with
  | of h => cases h; rfl
theorem Bn.str {U : Um} {H : Hp} {v : V} {i : Str} (h : Bn K ct U H v (.str i)) : v = .str i := by
  cases h with
  | of h => cases h; rfl
theorem Bn.non {U : Um} {H : Hp} {v : V} (h : Bn K ct U H v .none) : v = .non := by
  cases h with
  | of h => cases h; rfl
/-! ### a new object -/
theorem Ok.sh {S : Store} {U : Um} {H : Hp} (o : Ok K ct U S H) {p : Addr} (h : H p = none) : U p = .sh := by
  cases e : U p with
  | sh => rfl
  | ow => exact absurd h (o.there p (by rw [e]; decide))
  | ce => exact absurd h (o.there p (by rw [e]; decide))
  | lc => exact absurd h (o.there p (by rw [e]; decide))
theorem Stp.new {U : Um} {H : Hp} {p : Addr} {o : HO} (h : H p = none) : Stp U H U (upd H p o) :=
  ⟨fun a u e _ => by rw [upd_ne (ne_of_none e h)]; exact e, fun _ _ => rfl⟩
theorem Kp.new {U : Um} {H : Hp} {p : Addr} {o : HO} (h : H p = none) : Kp U H U (upd H p o) := ⟨rfl, fun a u e => by rw [upd_ne (ne_of_none e h)]; exact e⟩
theorem CellOk.st {U U' : Um} {H H' : Hp} {a : Addr} {c : Cell} (h : CellOk K ct U H a c) (e : ∀ u, H a = some u → H' a = some u) (s : StW U H U' H') (k : ∀ a, U a = .ce → U' a = .ce) : CellOk K ct U' H' a c := by
  cases c with
  | lst ds => obtain ⟨xs, h1, h2⟩ := h; exact ⟨xs, e _ h1, h2.st s k⟩
  | ins c fs => obtain ⟨dx, xs, h1, h2, h3⟩ := h; exact ⟨dx, xs, e _ h1, h2, h3.st s k⟩
  | dct _ => exact h.elim
theorem TabU.st {U U' : Um} {H H' : Hp} {p : Addr × Str} (t : TabU U H p) (e : ∀ u, H p.1 = some u → H' p.1 = some u) (s : StW U H U' H') : TabU U' H' p := by
  obtain ⟨ps, h1, h2, h3⟩ := t
  refine ⟨ps, e _ h1, h2, fun pos cv hc => ?_⟩
  obtain ⟨c, e1, e2, e3⟩ := h3 pos cv hc
  exact ⟨c, e1, (s c _ e2 e3).1, (s c _ e2 e3).2⟩
theorem Ok.new {S : Store} {U : Um} {H : Hp} (o : Ok K ct U S H) {p : Addr} {u : HO} (h : H p = none) : Ok K ct U S (upd H p u) := by
  refine ⟨o.ce, fun a c e => ?_, fun a ha => ?_, fun q hq => ?_⟩
  · exact (o.cell a c e).st (fun w q => by rw [upd_ne (ne_of_none q h)]; exact q) (Stp.new h).w fun _ k => k
  · by_cases e : a = p
    · rw [e, upd_same]; simp
    · rw [upd_ne e]; exact o.there a ha
  · exact (o.tab q hq).st (fun w k => by rw [upd_ne (ne_of_none k h)]; exact k) (Stp.new h).w
/-- a list of values that were there, in a new object -/
theorem Dn.newL {S : Store} {U : Um} {H : Hp} (o : Ok K ct U S H) {p : Addr} {xs : List V} {ds : List D} (h : H p = none) (l : DnL K ct U H xs ds) : Dn K ct U (upd H p (.lst xs)) (.ref p) (.lst ds) :=
  .lst (o.sh h) upd_same (l.stp o (Stp.new h))
theorem Dn.newT {S : Store} {U : Um} {H : Hp} (o : Ok K ct U S H) {p : Addr} {ob : Obj} {xs : List V} {ds : List D} (h : H p = none) (pt : PlainT ob) (l : DnL K ct U H xs ds) : Dn K ct U (upd H p (.frz ob (.tup xs))) (.ref p) (.tup ds) :=
  .tup (o.sh h) upd_same pt (l.stp o (Stp.new h))
/-- a fresh one: it may be owned at once -/
structure Fr_ (K : PySem.W.Frag) (ct : CT) (H : Hp) (U' : Um) (H' : Hp) (v : V) (d : D) : Prop where
  dn : Dn K ct U' H' v d
  lst : ∀ ds, d = .lst ds → ∃ p xs, v = .ref p ∧ H p = none ∧ H' p = some (.lst xs) ∧ U' p = .sh ∧ DnL K ct (U'.set p .ow) H' xs ds
end
end Sb
set_option linter.all false
set_option maxRecDepth 20000
set_option maxHeartbeats 4000000
set_option autoImplicit false
/-! A2b: a tuple, so many times. -/
namespace Sb
open PySem PySem.Spec PyProof.Rows L2
theorem tup_once (l : Addr) (items : Array Value) (n : Nat) (dd : Option Addr) (sl : Array (Option Value)) (u : Tok) (hne : items.isEmpty = false) :
    Meets (Builtin.«tuple.__mul__» ⟨[.ref l, .int 1 u], []⟩) (fun _ R s => s.heap.get? l = some { cls := .type "tuple", dict := dd, data := .seq items n, slots := sl } ∧ R (.ok (.ret (Value.ref l))) s) :=
  .of_wp fun prog w A R s h => by
    obtain ⟨hp, g, d, tk, os⟩ := s
    obtain ⟨hl, h⟩ := h
    have f1 := AutoSeq1.idx_int
    wp_walk using wpAny_loadPart' hl
    exact ⟨_, rfl, h⟩
section
variable {X : Cx}
/-- t * k, from the objects -/
theorem tup_times {pins : List (Addr × Obj)} {σ : L2.St} {H : Hp} {s : Shared} {l : Addr} {k : Int} {t : Tok} {its : List Value} {dd : Option Addr} {sl' : Array (Option Value)} {n : Nat} {xs : List V} {E : Value → Shared → Prop} {Q : Value → Shared → Prop}
    (I : Inv X pins σ H s) (ho : s.heap.get? l = some { cls := .type "tuple", dict := dd, data := .seq its.toArray n, slots := sl' }) (r : Vals xs its) (hne : xs ≠ []) (h1 : 1 ≤ k) (h2 : k ≤ 1000) (hz : xs.length ≤ 1000)
    (q1 : k = 1 → Q (.ref l) s) (q2 : 2 ≤ k → Q (.ref s.heap.objs.size) { s with heap := s.heap.push (⟨.type "tuple", none, .seq (List.replicate k.toNat its).flatten.toArray 0, #[]⟩ : Obj) }) :
    wpAny (model X.prog X.w) X.A (binaryOp .Mult (.ref l) (.int k t)) Q E s := by
  have len : its.length = xs.length := r.length.symm
  have hi : its.toArray.isEmpty = false := by
    cases its with
    | nil => exact absurd (List.eq_nil_of_length_eq_zero len.symm) hne
    | cons a b => rfl
  have sz : its.toArray.size = xs.length := by rw [List.size_toArray, len]
  have big : ((its.toArray.size : Nat) : Int) * k ≤ 1000000 := by
    rw [sz]
    have a1 : ((xs.length : Nat) : Int) * k ≤ 1000 * k := Int.mul_le_mul_of_nonneg_right (by omega) (by omega)
    omega
  have fl : (List.replicate k.toNat its).flatten.length ≤ sizeLine := by
    rw [PyProof.Rows.lm_len_rep_flat, len, sizeLine_eq]
    have a1 : k.toNat * xs.length ≤ 1000 * 1000 := Nat.mul_le_mul (by omega) hz
    omega
  rcases Int.lt_or_eq_of_le h1 with hk | hk
  · have c0 : (decide (k < -(2 ^ 63)) || decide (k ≥ 2 ^ 63)) = false := by
      rw [decide_eq_false (by omega), decide_eq_false (by omega)] <;> rfl
    have c1 : (its.toArray.isEmpty || k == 1) = false := by rw [hi, Bool.false_or]; exact beq_eq_false_iff_ne.mpr (by omega)
    have c2 : (decide (k ≤ 0) || its.toArray.isEmpty) = false := by rw [hi, Bool.or_false]; exact decide_eq_false (by omega)
    have c4 : Builtin.Tuple.tupleTooMany (((its.toArray.size : Nat) : Int) * k) = false := by
      unfold Builtin.Tuple.tupleTooMany
      rw [sizeLine_eq]
      exact decide_eq_false (by omega)
    refine wpAny_binaryOp_repeat_ref (T := "tuple") (U := "int") (by decide) ⟨_, ho, rfl⟩ (fun s' => typeIs_int s' k t) noFill_tuple_mul F.fills_int_mul F.slot_int_rmul repeat_tuple F.slot_int_index.lookup
      (call_meets F.slot_int_rmul (typeIs_int s k t) F.entry_int_rmul (F.args_int_rmul_2 _ _) (int_rmul_tuple k t l its.toArray n dd sl')
        ⟨ho, rfl, ⟨_, ho, rfl⟩, call_meets F.slot_tuple_mul ⟨_, ho, rfl⟩ F.entry_tuple_mul (F.args_tuple_mul_2 _ _) (tuple_mulW l its.toArray n dd sl' k t c0 c1 c2 (by omega) c4 (by rw [size_rep, List.size_toArray]; exact fl)) ⟨ho, ?_⟩⟩)
    rw [size_rep]
    exact q2 (by omega)
  · subst hk
    exact wpAny_binaryOp_repeat_ref (T := "tuple") (U := "int") (by decide) ⟨_, ho, rfl⟩ (fun s' => typeIs_int s' 1 t) noFill_tuple_mul F.fills_int_mul F.slot_int_rmul repeat_tuple F.slot_int_index.lookup
      (call_meets F.slot_int_rmul (typeIs_int s 1 t) F.entry_int_rmul (F.args_int_rmul_2 _ _) (int_rmul_tuple 1 t l its.toArray n dd sl')
        ⟨ho, rfl, ⟨_, ho, rfl⟩, call_meets F.slot_tuple_mul ⟨_, ho, rfl⟩ F.entry_tuple_mul (F.args_tuple_mul_2 _ _) (tup_once l its.toArray n dd sl' t hi) ⟨ho, q1 rfl⟩⟩)
end
end Sb
set_option linter.all false
set_option maxRecDepth 20000
set_option maxHeartbeats 1000000
set_option autoImplicit false
/-! A3: operators by values. -/
namespace Sb
open PySem PySem.Spec PyProof.Rows L2
section
variable (K : PySem.W.Frag) (ct : CT)
/-- a value behind, data behind; new lists are fresh -/
def PoF (U : Um) (S : Store) (H : Hp) (Q : D → Prop) (Qv : VK) : Prop := ∀ v d U' H', Kp U H U' H' → Ok K ct U' S H' → Fr_ K ct H U' H' v d → Q d → Qv v H'
def PoD (U : Um) (S : Store) (H : Hp) (Q : D → Prop) (Qv : VK) : Prop := ∀ v d U' H', Kp U H U' H' → Ok K ct U' S H' → Dn K ct U' H' v d → Q d → Qv v H'
def rBin (o : Bo) : R2 := fun x y H Qv => ∃ U S a b Q, Ok K ct U S H ∧ Bn K ct U H x a ∧ Bn K ct U H y b ∧ binD o a b Q ∧ PoF K ct U S H Q Qv
def rCmp (o : Co) : R2 := fun x y H Qv => ∃ U S a b Q, Ok K ct U S H ∧ Bn K ct U H x a ∧ Bn K ct U H y b ∧ cmpD o a b Q ∧ ∀ c, Q c → Qv (.bl c) H
end
theorem Dn.flat {K : PySem.W.Frag} {ct : CT} {H : Hp} {U : Um} {H' : Hp} {v : V} {d : D} (h : Dn K ct U H' v d) (n : ∀ ds, d ≠ .lst ds) : Fr_ K ct H U H' v d := ⟨h, fun ds e => absurd e (n ds)⟩
theorem Fr_.new {K : PySem.W.Frag} {ct : CT} {S : Store} {U : Um} {H0 H : Hp} {p : Addr} {xs : List V} {ds : List D} (o : Ok K ct U S H) (h0 : H0 p = none) (h : H p = none) (l : DnL K ct U H xs ds) : Fr_ K ct H0 U (upd H p (.lst xs)) (.ref p) (.lst ds) := by
  refine ⟨Dn.newL o h l, fun es e => ?_⟩
  cases e
  refine ⟨p, xs, rfl, h0, upd_same, o.sh h, ?_⟩
  refine l.st (fun a u e k => ⟨by rw [upd_ne (ne_of_none e h)]; exact e, ?_⟩) fun a k => ?_
  · rw [Um.set_ne (ne_of_none e h)]; exact k
  · rw [Um.set_ne (ne_of_none (Option.ne_none_iff_exists'.mp (o.there a (by rw [k]; decide))).choose_spec h)]; exact k
section
variable {X : Cx} {ct : CT}
abbrev tupO (its : List Value) : Obj := { cls := .type "tuple", data := .seq its.toArray }
theorem _root_.L2.Inv.newTup {pins : List (Addr × Obj)} {σ : L2.St} {H : Hp} {s : Shared} {xs : List V} {its : List Value} (I : Inv X pins σ H s) (r : Vals xs its) (hz : xs.length ≤ sizeLine) :
    Inv X pins σ (upd H s.heap.objs.size (.frz (tupO its) (.tup xs))) { s with heap := s.heap.push (tupO its) } :=
  I.laid (t' := s.toks) (o := .frz (tupO its) (.tup xs)) (fun b ob q => Heap.get?_push_of_some _ q) (Nat.le_refl _) ⟨Heap.get?_push_size _ rfl, hz, its, r, IsTup.new _ _⟩
theorem mulOk.ok {i j : Int} (h : mulOk i j) : CMul i j ∨ CMulW i j := by
  rcases h with h | ⟨h1, h2⟩
  · exact .inl h
  · exact .inr (wide_mul h1 h2 (by decide) (by decide) (by decide))
theorem ob_add : OpR X (binaryOp .Add) (rBin X.K ct .add) := by
  intro pins s σ H x y v u Qv I rx ry ⟨U, S, a, b, Q, ok, ha, hb, hq, post⟩
  cases a with
  | int i => cases b with
    | int j =>
      obtain rfl := ha.int; obtain rfl := hb.int
      exact op_add pins s σ H _ _ v u Qv I rx ry ⟨i, j, rfl, rfl, post _ _ _ _ Kp.refl ok (Dn.flat (.int _) fun _ e => nomatch e) hq⟩
    | _ => exact hq.elim
  | str i => cases b with
    | str j =>
      obtain rfl := ha.str; obtain rfl := hb.str
      exact op_add_str pins s σ H _ _ v u Qv I rx ry ⟨i, j, rfl, rfl, hq.1, post _ _ _ _ Kp.refl ok (Dn.flat (.str _) fun _ e => nomatch e) hq.2⟩
    | _ => exact hq.elim
  | tup ds => cases b with
    | tup es =>
      obtain ⟨p, o1, xs, rfl, k1, h1, t1, l1⟩ := ha.seqT
      obtain ⟨q, o2, ys, rfl, k2, h2, t2, l2⟩ := hb.seqT
      have e1 := l1.length
      have e2 := l2.length
      cases rx
      cases ry
      obtain ⟨its, r1, p1, _⟩ := I.tuple (.inl (.inr ⟨_, h1⟩))
      obtain ⟨its2, r2, p2, _⟩ := I.tuple (.inl (.inr ⟨_, h2⟩))
      by_cases hx : xs = []
      · subst hx
        cases r1
        cases l1
        exact cat_tup0 p1 p2 ⟨.ref q, H, I, rfl, post _ _ _ _ Kp.refl ok (Dn.flat (.tup k2 h2 t2 l2) fun _ e => nomatch e) hq.2⟩
      · refine HT.cat_tup p1 p2 (fun z => hx (r1.nil_iff.mp z)) (fun z => ?_) (fun z => ?_) (by rw [← r1.length, ← r2.length, e1, e2]; exact hq.1)
        · obtain rfl := r2.nil_iff.mp z
          cases l2
          have q2 := hq.2
          rw [List.append_nil] at q2
          exact ⟨.ref p, H, I, rfl, post _ _ _ _ Kp.refl ok (Dn.flat (.tup k1 h1 t1 l1) fun _ e => nomatch e) q2⟩
        · have hr : H s.heap.objs.size = none := I.hok.fresh (Nat.le_refl _)
          exact ⟨.ref s.heap.objs.size, _, I.newTup (r1.append r2) (by rw [List.length_append, e1, e2]; exact hq.1), rfl, post _ _ _ _ (Kp.new hr) (ok.new hr) (Dn.flat (Dn.newT ok hr ⟨rfl, rfl⟩ (l1.append l2)) fun _ e => nomatch e) hq.2⟩
    | _ => exact hq.elim
  | lst ds => cases b with
    | lst es =>
      obtain ⟨p, xs, rfl, h1, l1⟩ := ha.seqL
      obtain ⟨q, ys, rfl, h2, l2⟩ := hb.seqL
      have e1 := l1.length
      have e2 := l2.length
      exact op_cat pins s σ H _ _ v u Qv I rx ry ⟨p, q, xs, ys, rfl, rfl, h1, h2, by rw [e1, e2]; exact hq.1, fun r hr => post _ _ _ _ (Kp.new hr) (ok.new hr) (Fr_.new ok hr hr (l1.append l2)) hq.2⟩
    | _ => exact hq.elim
  | _ => cases b <;> exact hq.elim
theorem ob_sub : OpR X (binaryOp .Sub) (rBin X.K ct .sub) := by
  intro pins s σ H x y v u Qv I rx ry ⟨U, S, a, b, Q, ok, ha, hb, hq, post⟩
  cases a with
  | int i => cases b with
    | int j =>
      obtain rfl := ha.int; obtain rfl := hb.int
      exact op_sub pins s σ H _ _ v u Qv I rx ry ⟨i, j, rfl, rfl, post _ _ _ _ Kp.refl ok (Dn.flat (.int _) fun _ e => nomatch e) hq⟩
    | _ => exact hq.elim
  | _ => cases b <;> exact hq.elim
theorem DnL.rep {K : PySem.W.Frag} {U : Um} {H : Hp} {vs : List V} {ds : List D} (h : DnL K ct U H vs ds) : ∀ n : Nat, DnL K ct U H (List.replicate n vs).flatten (List.replicate n ds).flatten
  | 0 => .nil
  | n + 1 => by rw [List.replicate_succ, List.replicate_succ, List.flatten_cons, List.flatten_cons]; exact h.append (DnL.rep h n)
theorem ob_mul : OpR X (binaryOp .Mult) (rBin X.K ct .mul) := by
  intro pins s σ H x y v u Qv I rx ry ⟨U, S, a, b, Q, ok, ha, hb, hq, post⟩
  cases a with
  | int i => cases b with
    | int j =>
      obtain rfl := ha.int; obtain rfl := hb.int
      rcases hq.1.ok with h | h
      · exact op_mul pins s σ H _ _ v u Qv I rx ry ⟨i, j, rfl, rfl, h, post _ _ _ _ Kp.refl ok (Dn.flat (.int _) fun _ e => nomatch e) hq.2⟩
      · exact op_mulW pins s σ H _ _ v u Qv I rx ry ⟨i, j, rfl, rfl, h, post _ _ _ _ Kp.refl ok (Dn.flat (.int _) fun _ e => nomatch e) hq.2⟩
    | _ => exact hq.elim
  | tup ds => cases b with
    | int k =>
      obtain ⟨p, o1, xs, rfl, u1, h1, t1, l1⟩ := ha.seqT
      obtain rfl := hb.int
      obtain ⟨⟨k1, k2, k3, k4⟩, hq⟩ := hq
      have e1 := l1.length
      cases rx
      obtain ⟨t, rfl⟩ := ry
      obtain ⟨its, r1, ⟨⟨cls, dd, data, sl'⟩, ho, hc, n, hd⟩, _⟩ := I.tuple (.inl (.inr ⟨_, h1⟩))
      simp only at hc hd
      subst hc hd
      have hne : xs ≠ [] := fun z => k3 (by rw [z] at l1; cases l1; rfl)
      refine tup_times I ho r1 hne k1 k2 (by omega) (fun z => ?_) fun z => ?_
      · subst z
        have q2 : Q (.tup ds) := by simpa using hq
        exact ⟨.ref p, H, I, rfl, post _ _ _ _ Kp.refl ok (Dn.flat (.tup u1 h1 t1 l1) fun _ e => nomatch e) q2⟩
      · have hr : H s.heap.objs.size = none := I.hok.fresh (Nat.le_refl _)
        have len : (List.replicate k.toNat xs).flatten.length ≤ sizeLine := by
          rw [PyProof.Rows.lm_len_rep_flat, sizeLine_eq]
          have a1 : k.toNat * xs.length ≤ 1000 * 1000 := Nat.mul_le_mul (by omega) (by omega)
          omega
        exact ⟨.ref s.heap.objs.size, _, I.newTup (r1.rep k.toNat) len, rfl, post _ _ _ _ (Kp.new hr) (ok.new hr) (Dn.flat (Dn.newT ok hr ⟨rfl, rfl⟩ (l1.rep k.toNat)) fun _ e => nomatch e) hq⟩
    | _ => exact hq.elim
  | str x => cases b with
    | int k =>
      obtain rfl := ha.str
      obtain rfl := hb.int
      obtain ⟨⟨k0, k1, k2⟩, hq⟩ := hq
      obtain ⟨t, rfl⟩ := rx
      obtain ⟨t', rfl⟩ := ry
      refine SB.mul (PyProof.Rows.mulOk_of 1000 1000 k2 (by omega) (by omega) (by decide) (by decide)) fun u' k' => ⟨.str _, H, I.tok k', ⟨_, rfl⟩, post _ _ _ _ Kp.refl ok (Dn.flat (.str _) fun _ e => nomatch e) hq⟩
    | _ => exact hq.elim
  | lst ds => cases b with
    | int k =>
      obtain ⟨p, xs, rfl, h1, l1⟩ := ha.seqL
      obtain rfl := hb.int
      obtain ⟨⟨k0, k1, k2⟩, hq⟩ := hq
      exact op_rep pins s σ H _ _ v u Qv I rx ry ⟨p, k, xs, rfl, rfl, h1, by omega, by omega, by rw [l1.length]; exact k2, fun r hr => post _ _ _ _ (Kp.new hr) (ok.new hr) (Fr_.new ok hr hr (l1.rep k.toNat)) hq⟩
    | _ => exact hq.elim
  | _ => cases b <;> exact hq.elim
theorem divOk.ok {i j : Int} (h : divOk j) : CDivW i j := wide_div (i := i) h.1 h.2 (by decide) (by decide)
theorem ob_fdiv : OpR X (binaryOp .FloorDiv) (rBin X.K ct .fdiv) := by
  intro pins s σ H x y v u Qv I rx ry ⟨U, S, a, b, Q, ok, ha, hb, hq, post⟩
  cases a with
  | int i => cases b with
    | int j =>
      obtain rfl := ha.int; obtain rfl := hb.int
      exact op_fdivW pins s σ H _ _ v u Qv I rx ry ⟨i, j, rfl, rfl, hq.1.ok, post _ _ _ _ Kp.refl ok (Dn.flat (.int _) fun _ e => nomatch e) hq.2⟩
    | _ => exact hq.elim
  | _ => cases b <;> exact hq.elim
theorem ob_mod : OpR X (binaryOp .Mod) (rBin X.K ct .mod) := by
  intro pins s σ H x y v u Qv I rx ry ⟨U, S, a, b, Q, ok, ha, hb, hq, post⟩
  cases a with
  | int i => cases b with
    | int j =>
      obtain rfl := ha.int; obtain rfl := hb.int
      exact op_mod pins s σ H _ _ v u Qv I rx ry ⟨i, j, rfl, rfl, hq.1, post _ _ _ _ Kp.refl ok (Dn.flat (.int _) fun _ e => nomatch e) hq.2⟩
    | _ => exact hq.elim
  | _ => cases b <;> exact hq.elim
theorem ob_pow : OpR X (binaryOp .Pow) (rBin X.K ct .pow) := by
  intro pins s σ H x y v u Qv I rx ry ⟨U, S, a, b, Q, ok, ha, hb, hq, post⟩
  cases a with
  | int i => cases b with
    | int j =>
      obtain rfl := ha.int; obtain rfl := hb.int
      exact op_pow pins s σ H _ _ v u Qv I rx ry ⟨i, j, rfl, rfl, hq.1, post _ _ _ _ Kp.refl ok (Dn.flat (.int _) fun _ e => nomatch e) hq.2⟩
    | _ => exact hq.elim
  | _ => cases b <;> exact hq.elim
def opB : Bo → Operator
  | .add => .Add | .sub => .Sub | .mul => .Mult | .fdiv => .FloorDiv | .mod => .Mod | .pow => .Pow
theorem ob_all : ∀ o : Bo, OpR X (binaryOp (opB o)) (rBin X.K ct o)
  | .add => ob_add | .sub => ob_sub | .mul => ob_mul | .fdiv => ob_fdiv | .mod => ob_mod | .pow => ob_pow
end
end Sb
set_option linter.all false
set_option maxRecDepth 20000
set_option maxHeartbeats 1000000
set_option autoImplicit false
/-! AC: dicts shown, however deep; a text beside a dict. -/
namespace Sb
open PySem PySem.Spec PyProof.Rows L2
section
mutual
/-- read, with its dicts apart from the table of modules -/
inductive RdN (h : Heap) : Value → PyData → List Addr → Prop
  | flat {v : Value} {d : PyData} {as : List Addr} : Reads h v d as → d.hasDict = false → RdN h v d as
  | lst {a : Addr} {o : Obj} {vs : Array Value} {n : Nat} {xs : List PyData} {as : List Addr} : h.get? a = some o → o.cls = .type "list" → o.data = .seq vs n → RdL h vs.toList xs as → RdN h (.ref a) (.list xs) (a :: as)
  | tup {a : Addr} {o : Obj} {vs : Array Value} {n : Nat} {xs : List PyData} {as : List Addr} : h.get? a = some o → o.cls = .type "tuple" → o.data = .seq vs n → RdL h vs.toList xs as → RdN h (.ref a) (.tuple xs) as
  | dct {a : Addr} {o : Obj} {es : Array DictEntry} {n : Nat} {kvs : List (PyData × PyData)} {as bs : List Addr} : h.get? a = some o → o.cls = .type "dict" → o.data = .dict es n → (a == sysModules) = false →
      ReadsAll h (es.toList.map (·.key)) (kvs.map (·.1)) as → ReadsAll h (es.toList.map (·.val)) (kvs.map (·.2)) bs → PyData.hasDictAll (kvs.map (·.1)) = false → PyData.hasDictAll (kvs.map (·.2)) = false → RdN h (.ref a) (.dict kvs) (a :: as ++ bs)
inductive RdL (h : Heap) : List Value → List PyData → List Addr → Prop
  | nil : RdL h [] [] []
  | cons {v : Value} {vs : List Value} {d : PyData} {ds : List PyData} {as bs : List Addr} : RdN h v d as → RdL h vs ds bs → RdL h (v :: vs) (d :: ds) (as ++ bs)
end
variable {h : Heap} {prog : Program} {w : World}
mutual
theorem RdN.rd : ∀ {v : Value} {d : PyData} {as : List Addr}, RdN h v d as → Reads h v d as
  | _, _, _, .flat r _ => r
  | _, _, _, .lst x y z l => .list x y z (RdL.rd l)
  | _, _, _, .tup x y z l => .tuple x y z (RdL.rd l)
  | _, _, _, .dct x y z _ l l' _ _ => .dict x y z l l'
theorem RdL.rd : ∀ {vs : List Value} {ds : List PyData} {as : List Addr}, RdL h vs ds as → ReadsAll h vs ds as
  | _, _, _, .nil => .nil
  | _, _, _, .cons r l => .cons (RdN.rd r) (RdL.rd l)
end
theorem noSys {d : List PyData} {as : List Addr} (e : PyData.hasDictAll d = false) : PyData.hasDictAll d = true → sysModules ∉ as := fun t => by rw [e] at t; cases t
/-- a dict's pairs, whose keys and values hold no dict -/
theorem dct_parts {a : Addr} {o : Obj} {es : Array DictEntry} {n : Nat} {kvs : List (PyData × PyData)} {as bs : List Addr} (x : h.get? a = some o) (y : o.cls = .type "dict") (z : o.data = .dict es n)
    (l1 : ReadsAll h (es.toList.map (·.key)) (kvs.map (·.1)) as) (l2 : ReadsAll h (es.toList.map (·.val)) (kvs.map (·.2)) bs) (f1 : PyData.hasDictAll (kvs.map (·.1)) = false) (f2 : PyData.hasDictAll (kvs.map (·.2)) = false)
    (sh : PyData.showable (.dict kvs) = true) (sz : (PyData.shown (.dict kvs)).length ≤ sizeLine) :
    ∃ cs, ReadAtMost h (PyData.depthKv kvs) cs ∧ a ∉ cs ∧ ReprEntriesK prog w cs h (PyData.depthKv kvs) es.toList (PyData.shownKv kvs) := by
  have sz2 : (dictText (PyData.shownKv kvs)).length ≤ sizeLine := by rw [PyData.shown] at sz; exact sz
  rw [PyData.showable] at sh
  obtain ⟨g1, g2⟩ := PyData.showableKv_split kvs sh
  obtain ⟨c1, m1, k1⟩ := ReprAllK.of_readsAll (prog := prog) (w := w) l1 g1 (noSys f1) fun t ht => by
    obtain ⟨p, hp, hl⟩ := PyData.shownKv_key_le kvs t ht
    exact Nat.le_trans (Nat.le_trans hl (dictText_mem_le hp)) sz2
  obtain ⟨c2, m2, k2⟩ := ReprAllK.of_readsAll (prog := prog) (w := w) l2 g2 (noSys f2) fun t ht => by
    obtain ⟨p, hp, hl⟩ := PyData.shownKv_val_le kvs t ht
    exact Nat.le_trans (Nat.le_trans hl (dictText_mem_le hp)) sz2
  have mm : ReadAtMost h (PyData.depthKv kvs) (c1 ++ c2) := .append (m1.mono (PyData.depthAll_keys_le kvs)) (m2.mono (PyData.depthAll_vals_le kvs))
  refine ⟨c1 ++ c2, mm, not_mem_of_deeper (Reads.dict x y z l1 l2) (by rw [PyData.depth]; omega) mm, ?_⟩
  rw [PyData.shownKv_eq]
  exact .of_two _ _ _ (k1.more_le (fun _ e => List.mem_append_left _ e) (PyData.depthAll_keys_le kvs)) (k2.more_le (fun _ e => List.mem_append_right _ e) (PyData.depthAll_vals_le kvs))
mutual
theorem RdN.rk : ∀ {v : Value} {d : PyData} {as : List Addr}, RdN h v d as → d.showable = true → d.shown.length ≤ sizeLine → ∃ cs, ReadAtMost h d.depth cs ∧ ReprK prog w cs h d.depth v d.shown
  | _, _, _, .flat r f, sh, sz => ReprK.of_reads r sh (PyData.noDict_hsm f) sz
  | _, _, _, .lst (a := a) (vs := ⟨vs⟩) (xs := xs) x y z l, sh, sz => by
    rw [PyData.showable] at sh
    rw [PyData.shown] at sz
    obtain ⟨cs, m, k⟩ := RdL.rk l sh fun t ht => Nat.le_trans (listText_mem_le ht) sz
    have r := Reads.list x y z (RdL.rd l)
    have no : a ∉ cs := not_mem_of_deeper r (by rw [PyData.depth]; omega) m
    refine ⟨a :: cs, .cons r (by rw [PyData.depth]; omega) m, ?_⟩
    rw [PyData.depth, PyData.shown]
    cases vs with
    | nil => cases l; rw [PyData.shownAll]; exact ReprK.listEmpty x y z
    | cons u us => exact ReprK.list x y z no (by simpa using k.length_eq) fun i t e => k.item i t (by simpa using e)
  | _, _, _, .tup (a := a) (xs := xs) x y z l, sh, sz => by
    rw [PyData.showable] at sh
    rw [PyData.shown] at sz
    obtain ⟨cs, m, k⟩ := RdL.rk l sh fun t ht => Nat.le_trans (tupleText_mem_le ht) sz
    have r := Reads.tuple x y z (RdL.rd l)
    have no : a ∉ cs := not_mem_of_deeper r (by rw [PyData.depth]; omega) m
    refine ⟨a :: cs, .cons r (by rw [PyData.depth]; omega) m, ?_⟩
    rw [PyData.depth, PyData.shown]
    exact ReprK.tuple x y z no k
  | _, _, _, .dct (a := a) x y z ns l1 l2 f1 f2, sh, sz => by
    obtain ⟨cs, m, no, k⟩ := dct_parts (prog := prog) (w := w) x y z l1 l2 f1 f2 sh sz
    refine ⟨a :: cs, .cons (Reads.dict x y z l1 l2) (by rw [PyData.depth]; omega) m, ?_⟩
    rw [PyData.depth, PyData.shown]
    exact ReprK.dict x y z ns no k
theorem RdL.rk : ∀ {vs : List Value} {ds : List PyData} {as : List Addr}, RdL h vs ds as → PyData.showableAll ds = true → (∀ t ∈ PyData.shownAll ds, t.length ≤ sizeLine) →
    ∃ cs, ReadAtMost h (PyData.depthAll ds) cs ∧ ReprAllK prog w cs h (PyData.depthAll ds) vs (PyData.shownAll ds)
  | _, _, _, .nil, _, _ => ⟨[], (fun _ e => by cases e), by rw [PyData.shownAll]; exact .nil⟩
  | _, _, _, .cons (d := d) (ds := ds) r l, sh, sz => by
    rw [PyData.showableAll, Bool.and_eq_true] at sh
    rw [PyData.shownAll] at sz
    obtain ⟨c1, m1, k1⟩ := RdN.rk r sh.1 (sz _ List.mem_cons_self)
    obtain ⟨c2, m2, k2⟩ := RdL.rk l sh.2 fun t e => sz t (List.mem_cons_of_mem _ e)
    refine ⟨c1 ++ c2, ?_, ?_⟩
    · rw [PyData.depthAll]
      exact .append (m1.mono (Nat.le_max_left _ _)) (m2.mono (Nat.le_max_right _ _))
    · rw [PyData.depthAll, PyData.shownAll]
      exact .cons ((k1.more fun _ e => List.mem_append_left _ e).level_le (Nat.le_max_left _ _)) (k2.more_le (fun _ e => List.mem_append_right _ e) (Nat.le_max_right _ _))
end
/-- repr(x) -/
theorem RdN.run {a : Addr} {d : PyData} {as : List Addr} {A : Around} {E Q : Value → Shared → Prop} {s : Shared} (r : RdN s.heap (.ref a) d as) (sh : d.showable = true) (hg : A.guards = some []) (hu : A.units + (d.depth + 1) < cLine)
    (hQ : ∀ h' u tk, (∀ b o, s.heap.get? b = some o → h'.get? b = some o) → Q (.str d.shown u) { s with heap := h', toks := tk }) (sz : d.shown.length ≤ sizeLine) : wpAny (model prog w) A (call (.builtin "repr") [.ref a]) Q E s := by
  have hu1 : A.in1.units + d.depth < cLine := by show A.units + 1 + d.depth < cLine; omega
  have fin : ∀ (h' : Heap) (u tk : Tok), (∀ b o, s.heap.get? b = some o → h'.get? b = some o) → ∃ x t, Value.str d.shown u = .str x t ∧ Q (.str d.shown u) { s with heap := h', toks := tk } := fun h' u tk k => ⟨_, _, rfl, hQ h' u tk k⟩
  cases r with
  | flat r f => exact repr_of_reads' r sh (PyData.noDict_hsm f) hg hu (fun _ _ e => e) hQ sz
  | lst x y z l =>
    rename_i o vs n xs bs
    obtain ⟨vs⟩ := vs
    rw [PyData.showable] at sh
    rw [PyData.shown] at sz fin
    obtain ⟨cs, m, k⟩ := RdL.rk (prog := prog) (w := w) l sh fun t ht => Nat.le_trans (listText_mem_le ht) sz
    have no : a ∉ cs := not_mem_of_deeper (Reads.list x y z (RdL.rd l)) (by rw [PyData.depth]; omega) m
    refine call_repr_slot (by omega) ⟨o, x, y⟩ PySem.F.slot_list_repr.toG ?_
    cases vs with
    | nil =>
      cases l
      exact call_list_repr_empty ⟨o, x, y⟩ x z (fin s.heap _ _ fun _ _ e => e)
    | cons u us =>
      rw [PyData.depth] at hu1
      exact call_list_reprK x y z no (by simpa using k.length_eq) (fun i t e => k.item i t (by simpa using e)) hg (fun b _ => Clear.nil b) hu1 (fun _ _ e => e) fin sz
  | tup x y z l =>
    rw [PyData.showable] at sh
    rw [PyData.shown] at sz fin
    obtain ⟨cs, m, k⟩ := RdL.rk (prog := prog) (w := w) l sh fun t ht => Nat.le_trans (tupleText_mem_le ht) sz
    have no : a ∉ cs := not_mem_of_deeper (Reads.tuple x y z (RdL.rd l)) (by rw [PyData.depth]; omega) m
    rw [PyData.depth] at hu1
    exact call_repr_slot (by omega) ⟨_, x, y⟩ PySem.F.slot_tuple_repr (call_tuple_reprK x y z no k hg (fun b _ => Clear.nil b) hu1 (fun _ _ e => e) fin sz)
  | dct x y z ns l1 l2 f1 f2 =>
    obtain ⟨cs, m, no, k⟩ := dct_parts (prog := prog) (w := w) x y z l1 l2 f1 f2 sh sz
    rw [PyData.shown] at sz fin
    rw [PyData.depth] at hu1
    exact call_repr_slot (by omega) ⟨_, x, y⟩ PySem.F.slot_dict_repr (call_dict_reprK x y z ns no k hg (fun b _ => Clear.nil b) hu1 (fun _ _ e => e) fin sz)
end
/-! ### a text beside a dict -/
section
variable {A : Around} {s : Shared}
theorem dict_eq_str (a : Addr) (es : Array DictEntry) (n : Nat) (b : Str) (u : Tok) :
    Meets (Builtin.«dict.__eq__» ⟨[.ref a, .str b u], []⟩) (fun _ R s => s.heap.get? a = some { cls := .type "dict", data := .dict es n } ∧ R (.ok (.ret .notImplemented)) s) :=
  .of_wp fun prog w A R s h => by
    obtain ⟨hp, g, d, tk, os⟩ := s
    obtain ⟨hl, h⟩ := h
    have f1 := PySem.F.sub_str_dict
    wp_walk using AutoSeq1.wpAny_loadPart' hl
    exact ⟨_, rfl, h⟩
theorem dict_ne_str (a : Addr) (es : Array DictEntry) (n : Nat) (b : Str) (u : Tok) :
    Meets (Builtin.«dict.__ne__» ⟨[.ref a, .str b u], []⟩) (fun _ R s => s.heap.get? a = some { cls := .type "dict", data := .dict es n } ∧ R (.ok (.ret .notImplemented)) s) :=
  .of_wp fun prog w A R s h => by
    obtain ⟨hp, g, d, tk, os⟩ := s
    obtain ⟨hl, h⟩ := h
    have f1 := PySem.F.sub_str_dict
    wp_walk using AutoSeq1.wpAny_loadPart' hl
    exact ⟨_, rfl, h⟩
theorem str_eq_dict (a : Addr) (es : Array DictEntry) (n : Nat) (b : Str) (u : Tok) :
    Meets (Builtin.«str.__eq__» ⟨[.str b u, .ref a], []⟩) (fun _ R s => s.heap.get? a = some { cls := .type "dict", data := .dict es n } ∧ R (.ok (.ret .notImplemented)) s) :=
  .of_wp fun prog w A R s h => by
    obtain ⟨hp, g, d, tk, os⟩ := s
    obtain ⟨hl, h⟩ := h
    wp_walk using AutoSeq1.wpAny_loadPart' hl, wpAny_load hl
    exact ⟨_, rfl, h⟩
theorem str_ne_dict (a : Addr) (es : Array DictEntry) (n : Nat) (b : Str) (u : Tok) :
    Meets (Builtin.«str.__ne__» ⟨[.str b u, .ref a], []⟩) (fun _ R s => s.heap.get? a = some { cls := .type "dict", data := .dict es n } ∧ R (.ok (.ret .notImplemented)) s) :=
  .of_wp fun prog w A R s h => by
    obtain ⟨hp, g, d, tk, os⟩ := s
    obtain ⟨hl, h⟩ := h
    wp_walk using AutoSeq1.wpAny_loadPart' hl, wpAny_load hl
    exact ⟨_, rfl, h⟩
theorem rc_str_dict {a : Addr} {es : Array DictEntry} {n : Nat} {b : Str} {u : Tok} (ho : s.heap.get? a = some { cls := .type "dict", data := .dict es n }) (hu : A.units < cLine) : SeqAt.RcAt A s (.str b u) (.ref a) false := fun prog w E Q hq =>
  SeqAt.rc_eq_decline_or (k := false) (typeIs_str s b u) ⟨_, ho, rfl⟩ (by decide) PySem.F.sub_dict_str PySem.F.slot_str_eq PySem.F.slot_dict_eq_refl
    (fun _ q => call_meets PySem.F.slot_str_eq (typeIs_str s b u) PySem.F.entry_str_eq (PySem.F.args_str_eq_2 _ _) (str_eq_dict a es n b u) ⟨ho, q⟩)
    (fun _ q => call_meets PySem.F.slot_dict_eq_refl ⟨_, ho, rfl⟩ PySem.F.entry_dict_eq (PySem.F.args_dict_eq_2 _ _) (dict_eq_str a es n b u) ⟨ho, q⟩)
    (fun _ q => wpAny_of_eq (rfl : isSame (.str b u) (.ref a) = pure false) q) (.inr hu) hq
theorem eq_str_dict {a : Addr} {es : Array DictEntry} {n : Nat} {b : Str} {u : Tok} (ho : s.heap.get? a = some { cls := .type "dict", data := .dict es n }) (hu : A.units < cLine) : SeqAt.EqAt A s (.str b u) (.ref a) false := fun prog w E Q hq => by
  unfold eqBool
  refine wpAny_holding (wpAny_ite_split (fun z => absurd (eq_of_beq z) nofun) fun _ => ?_)
  exact wpAny_bind (rc_str_dict ho hu prog w E _ (wpAny_truthy_bool hq))
theorem rn_str_dict {a : Addr} {es : Array DictEntry} {n : Nat} {b : Str} {u : Tok} (ho : s.heap.get? a = some { cls := .type "dict", data := .dict es n }) (hu : A.units < cLine) : SeqAt.RcNeAt A s (.str b u) (.ref a) true := fun prog w E Q hq =>
  SeqAt.rc_ne_decline_or (k := false) (typeIs_str s b u) ⟨_, ho, rfl⟩ (by decide) PySem.F.sub_dict_str PySem.F.slot_str_ne PySem.F.slot_dict_ne_refl
    (fun _ q => call_meets PySem.F.slot_str_ne (typeIs_str s b u) PySem.F.entry_str_ne (PySem.F.args_str_ne_2 _ _) (str_ne_dict a es n b u) ⟨ho, q⟩)
    (fun _ q => call_meets PySem.F.slot_dict_ne_refl ⟨_, ho, rfl⟩ PySem.F.entry_dict_ne (PySem.F.args_dict_ne_2 _ _) (dict_ne_str a es n b u) ⟨ho, q⟩)
    (fun _ q => wpAny_of_eq (rfl : isSame (.str b u) (.ref a) = pure false) q) (.inr hu) hq
end
/-! ### written dicts in the heap -/
section
variable {X : Cx}
theorem dk_keys {h : Heap} {P : Program} {w : World} : ∀ {es : List DictEntry} {vs : List (Key × Value)} (l : List (Str × Int)), KV (l.map fun p => ((.inr p.1 : Key), V.int p.2)) vs → Pairs (mixKind P w) es vs →
    (∃ as, ReadsAll h (es.map (·.key)) (l.map fun p => PyData.str p.1) as) ∧ ∃ bs, ReadsAll h (es.map (·.val)) (l.map fun p => PyData.int p.2) bs
  | _, _, [], .nil, .nil => ⟨⟨_, .nil⟩, _, .nil⟩
  | _, _, p :: r, .cons x y, .cons z z2 t => by
    obtain ⟨⟨as, g1⟩, bs, g2⟩ := dk_keys (h := h) (w := w) (P := P) r y t
    obtain ⟨x1, i, x2⟩ := x
    rw [← x1] at z
    have z : keyIs (.inr p.1) _ = true := z
    obtain ⟨j, u, e, _⟩ | ⟨x', u, e, e2⟩ := keyIs_shape z
    · cases e
    · obtain rfl : p.1 = x' := by injection e
      refine ⟨⟨[] ++ as, ?_⟩, [] ++ bs, ?_⟩
      · rw [List.map_cons, List.map_cons, e2]; exact .cons (as := []) (.str p.1 u) g1
      · rw [List.map_cons, List.map_cons, z2, x2]; exact .cons (as := []) (.int p.2 i) g2
theorem flat_strs : ∀ l : List (Str × Int), PyData.hasDictAll (l.map fun p => PyData.str p.1) = false
  | [] => rfl
  | p :: r => by rw [List.map_cons, PyData.hasDictAll, flat_strs r]; rfl
theorem flat_ints : ∀ l : List (Str × Int), PyData.hasDictAll (l.map fun p => PyData.int p.2) = false
  | [] => rfl
  | p :: r => by rw [List.map_cons, PyData.hasDictAll, flat_ints r]; rfl
theorem sd_read {pins : List (Addr × Obj)} {σ : L2.St} {H : Hp} {s : Shared} {a : Addr} {l : List (Str × Int)} (I : Inv X pins σ H s) (e : H a = some (.dK (l.map fun p => (.inr p.1, .int p.2)))) :
    ∃ es n as, s.heap.get? a = some { cls := .type "dict", data := .dict es n } ∧ RdN s.heap (.ref a) (.dict (l.map fun p => (.str p.1, .int p.2))) as := by
  obtain ⟨_, ns, vs, kv, ⟨cls, dd, dt, sl⟩, es, n, ho, ⟨c1, c2, c3⟩, hd, _, pr, _⟩ := dk_of I.hok e
  simp only at c1 c2 c3 hd
  subst c1 c2 c3 hd
  obtain ⟨⟨as, g1⟩, bs, g2⟩ := dk_keys (h := s.heap) l kv pr
  refine ⟨es, n, _, ho, .dct (as := as) (bs := bs) ho rfl rfl ns ?_ ?_ ?_ ?_⟩
  · rw [List.map_map]; exact g1
  · rw [List.map_map]; exact g2
  · rw [List.map_map]; exact flat_strs l
  · rw [List.map_map]; exact flat_ints l
end
end Sb
set_option linter.all false
set_option maxRecDepth 20000
set_option maxHeartbeats 1000000
set_option autoImplicit false
/-! A4: comparisons by values. -/
namespace Sb
open PySem PySem.Spec PyProof.Rows L2
section
variable {K : PySem.W.Frag} {ct : CT} {U : Um} {H : Hp}
mutual
theorem Dn.dp : ∀ {v : V} {d : D} {p : PyData}, Dn K ct U H v d → d.py = some p → p.hasDict = false → Dp K H v p
  | _, _, _, .non, e, _ => by cases e; exact .non
  | _, _, _, .bl b, e, _ => by cases e; exact .bl b
  | _, _, _, .int i, e, _ => by cases e; exact .int i
  | _, _, _, .str x, e, _ => by cases e; exact .str x
  | _, _, _, .lst (ds := ds) k h l, e, f => by
    simp only [D.py, Option.map_eq_some_iff] at e
    obtain ⟨ps, e, rfl⟩ := e
    exact .lst (.of h) (DnL.dp l e (by rw [PyData.hasDict] at f; exact f))
  | _, _, _, .tup (ds := ds) k h _ l, e, f => by
    simp only [D.py, Option.map_eq_some_iff] at e
    obtain ⟨ps, e, rfl⟩ := e
    exact .tup (.inl (.inr ⟨_, h⟩)) (DnL.dp l e (by rw [PyData.hasDict] at f; exact f))
  | _, _, _, .scr k, e, _ => by cases e
  | _, _, _, .obj _ _ _ _, e, _ => by cases e
  | _, _, _, .cls c, e, _ => by cases e
  | _, _, _, .sd _ _, e, f => by cases e; rw [PyData.hasDict] at f; cases f
  | _, _, _, .ptr k, e, _ => by cases e
  | _, _, _, .exc _ _ _ _ _, e, _ => by cases e
theorem DnL.dp : ∀ {vs : List V} {ds : List D} {ps : List PyData}, DnL K ct U H vs ds → D.pys ds = some ps → PyData.hasDictAll ps = false → DpAll K H vs ps
  | _, _, _, .nil, e, _ => by cases e; exact .nil
  | _, _, _, .cons (d := d) (ds := ds) h t, e, f => by
    simp only [D.pys] at e
    cases e1 : d.py with
    | none => rw [e1] at e; cases e
    | some p =>
      cases e2 : D.pys ds with
      | none => rw [e1, e2] at e; cases e
      | some ps =>
        rw [e1, e2] at e
        cases e
        rw [PyData.hasDictAll, Bool.or_eq_false_iff] at f
        exact .cons (Dn.dp h e1 f.1) (DnL.dp t e2 f.2)
end
theorem Bn.dp {v : V} {d : D} {p : PyData} (h : Bn K ct U H v d) (e : d.py = some p) (f : p.hasDict = false) : Dp K H v p := by
  cases h with
  | of h => exact h.dp e f
  | lst k h l =>
    simp only [D.py, Option.map_eq_some_iff] at e
    obtain ⟨ps, e, rfl⟩ := e
    exact .lst (.of h) (l.dp e (by rw [PyData.hasDict] at f; exact f))
theorem shaped_nd {p : PyData} (h : SeqAt.shaped p = true) : p.hasDict = false := PyData.hasDict_of_canLay p (SeqAt.canLay_of_shaped h)
theorem lay_nd {ps : List PyData} (h : PyData.canLayAll0 ps = true) : PyData.hasDictAll ps = false := by
  have := PyData.hasDict_of_canLay (.list ps) (by simpa [PyData.canLay0] using h)
  simpa [PyData.hasDict] using this
theorem Bn.sd {v : V} {l : List (Str × Int)} (h : Bn K ct U H v (.sd l)) : ∃ a, v = .ref a ∧ H a = some (.dK (l.map fun p => (.inr p.1, .int p.2))) := by
  cases h with
  | of h => cases h with
    | sd k h => exact ⟨_, rfl, h⟩
theorem Bn.flat {v : V} {d : D} (h : Bn K ct U H v d) (f : flatD d = true) : flatV v = true ∧ ∀ (e : D) (x : V), Bn K ct U H x e → flatD e = true → eqV v x = eqF d e := by
  have key : ∀ (d e : D) (v x : V), Dn K ct U H v d → Dn K ct U H x e → flatD d = true → flatD e = true → flatV v = true ∧ eqV v x = eqF d e := by
    intro d e v x h1 h2 f1 f2
    cases h1 <;> first | (cases f1; done) | (cases h2 <;> first | (cases f2; done) | exact ⟨rfl, rfl⟩)
  cases h with
  | of h => exact ⟨(key d d v v h h f f).1, fun e x hx fe => by
      cases hx with
      | of hx => exact (key d e v x h hx f fe).2
      | lst _ _ _ => cases fe⟩
  | lst _ _ _ => cases f
theorem DnL.flat : ∀ {vs : List V} {ds : List D}, DnL K ct U H vs ds → ds.all flatD = true → vs.all flatV = true ∧ ∀ (e : D) (x : V), Bn K ct U H x e → flatD e = true → vs.any (fun y => eqV y x) = ds.any fun y => eqF y e
  | _, _, .nil, _ => ⟨rfl, fun _ _ _ _ => rfl⟩
  | _, _, .cons h t, f => by
    rw [List.all_cons, Bool.and_eq_true] at f
    obtain ⟨f1, g1⟩ := (Bn.of h).flat f.1
    obtain ⟨f2, g2⟩ := DnL.flat t f.2
    refine ⟨by rw [List.all_cons, f1, f2]; rfl, fun e x hx fe => ?_⟩
    rw [List.any_cons, List.any_cons, g1 e x hx fe, g2 e x hx fe]
end
section
variable {X : Cx} {ct : CT}
theorem eqD_ok {a b : D} {c : Bool} (h : eqD a b = some c) : (∃ x y, a = .str x ∧ b = .str y ∧ c = decide (x = y)) ∨ (∃ x l, a = .str x ∧ b = .sd l ∧ c = false) ∨ ∃ p q, a.py = some p ∧ b.py = some q ∧ SeqAt.shaped p = true ∧ SeqAt.shaped q = true ∧ c = PyData.eqv p q := by
  unfold eqD at h
  split at h
  · cases h; exact .inl ⟨_, _, rfl, rfl, rfl⟩
  · cases h; exact .inr (.inl ⟨_, _, rfl, rfl, rfl⟩)
  · split at h
    · rename_i p q e1 e2
      by_cases hh : (SeqAt.shaped p && SeqAt.shaped q) = true
      · rw [if_pos hh] at h
        rw [Bool.and_eq_true] at hh
        cases h
        exact .inr <| .inr ⟨p, q, e1, e2, hh.1, hh.2, rfl⟩
      · rw [if_neg hh] at h; cases h
    · cases h
theorem oc_eq (hu : X.A.units + 64 < cLine) : OpR X (compareOp .Eq) (rCmp X.K ct .eq) := by
  intro pins s σ H x y v u Qv I rx ry ⟨U, S, a, b, Q, ok, ha, hb, hq, post⟩
  change ob (eqD a b) Q at hq
  cases e : eqD a b with
  | none => rw [e] at hq; exact hq.elim
  | some c =>
    rw [e] at hq
    rcases eqD_ok e with ⟨z, z', rfl, rfl, rfl⟩ | ⟨z, l, rfl, rfl, rfl⟩ | ⟨p, q, e1, e2, s1, s2, rfl⟩
    rotate_left
    · obtain rfl := ha.str
      obtain ⟨d, rfl, hd⟩ := hb.sd
      obtain ⟨es, n, as, ho, _⟩ := sd_read I hd
      obtain ⟨t, rfl⟩ := rx
      cases ry
      exact rc_str_dict ho (by omega) _ _ _ _ ⟨.bl false, H, I, rfl, post _ hq⟩
    rotate_left
    · obtain rfl := ha.str; obtain rfl := hb.str
      refine op_eq pins s σ H _ _ v u Qv I rx ry ⟨rfl, ?_⟩
      have e3 : decide (V.str z = V.str z') = decide (z = z') := by simp
      rw [e3]
      exact post _ hq
    · exact op_eqD hu pins s σ H _ _ v u Qv I rx ry ⟨p, q, ha.dp e1 (shaped_nd s1), hb.dp e2 (shaped_nd s2), s1, s2, post _ hq⟩
theorem oc_ne (hu : X.A.units + 64 < cLine) : OpR X (compareOp .NotEq) (rCmp X.K ct .ne) := by
  intro pins s σ H x y v u Qv I rx ry ⟨U, S, a, b, Q, ok, ha, hb, hq, post⟩
  change ob (eqD a b) _ at hq
  cases e : eqD a b with
  | none => rw [e] at hq; exact hq.elim
  | some c =>
    rw [e] at hq
    rcases eqD_ok e with ⟨z, z', rfl, rfl, rfl⟩ | ⟨z, l, rfl, rfl, rfl⟩ | ⟨p, q, e1, e2, s1, s2, rfl⟩
    rotate_left
    · obtain rfl := ha.str
      obtain ⟨d, rfl, hd⟩ := hb.sd
      obtain ⟨es, n, as, ho, _⟩ := sd_read I hd
      obtain ⟨t, rfl⟩ := rx
      cases ry
      exact rn_str_dict ho (by omega) _ _ _ _ ⟨.bl true, H, I, rfl, post _ hq⟩
    rotate_left
    · obtain rfl := ha.str; obtain rfl := hb.str
      refine op_ne pins s σ H _ _ v u Qv I rx ry ⟨rfl, ?_⟩
      have e3 : decide (V.str z = V.str z') = decide (z = z') := by simp
      rw [e3]
      exact post _ hq
    · exact op_neD hu pins s σ H _ _ v u Qv I rx ry ⟨p, q, ha.dp e1 (shaped_nd s1), hb.dp e2 (shaped_nd s2), s1, s2, post _ hq⟩
theorem oc_lt : OpR X (compareOp .Lt) (rCmp X.K ct .lt) := by
  intro pins s σ H x y v u Qv I rx ry ⟨U, S, a, b, Q, ok, ha, hb, hq, post⟩
  change ob (ltD a b) _ at hq
  cases a with
  | int i => cases b with
    | int j =>
      obtain rfl := ha.int; obtain rfl := hb.int
      exact op_lt pins s σ H _ _ v u Qv I rx ry ⟨_, _, rfl, rfl, post _ hq⟩
    | _ => exact hq.elim
  | str i => cases b with
    | str j =>
      obtain rfl := ha.str; obtain rfl := hb.str
      exact op_lt_str pins s σ H _ _ v u Qv I rx ry ⟨_, _, rfl, rfl, post _ hq⟩
    | _ => exact hq.elim
  | _ => cases b <;> exact hq.elim
theorem oc_gt : OpR X (compareOp .Gt) (rCmp X.K ct .gt) := by
  intro pins s σ H x y v u Qv I rx ry ⟨U, S, a, b, Q, ok, ha, hb, hq, post⟩
  change ob (ltD b a) _ at hq
  cases a with
  | int i => cases b with
    | int j =>
      obtain rfl := ha.int; obtain rfl := hb.int
      exact op_gt pins s σ H _ _ v u Qv I rx ry ⟨_, _, rfl, rfl, post _ hq⟩
    | _ => exact hq.elim
  | str i => cases b with
    | str j =>
      obtain rfl := ha.str; obtain rfl := hb.str
      exact op_gt_str pins s σ H _ _ v u Qv I rx ry ⟨_, _, rfl, rfl, post _ hq⟩
    | _ => exact hq.elim
  | _ => cases b <;> exact hq.elim
theorem oc_le : OpR X (compareOp .LtE) (rCmp X.K ct .le) := by
  intro pins s σ H x y v u Qv I rx ry ⟨U, S, a, b, Q, ok, ha, hb, hq, post⟩
  change ob (leD a b) _ at hq
  cases a with
  | int i => cases b with
    | int j =>
      obtain rfl := ha.int; obtain rfl := hb.int
      exact op_le pins s σ H _ _ v u Qv I rx ry ⟨_, _, rfl, rfl, post _ hq⟩
    | _ => exact hq.elim
  | str i => cases b with
    | str j =>
      obtain rfl := ha.str; obtain rfl := hb.str
      exact op_le_str pins s σ H _ _ v u Qv I rx ry ⟨_, _, rfl, rfl, post _ hq⟩
    | _ => exact hq.elim
  | _ => cases b <;> exact hq.elim
theorem oc_ge : OpR X (compareOp .GtE) (rCmp X.K ct .ge) := by
  intro pins s σ H x y v u Qv I rx ry ⟨U, S, a, b, Q, ok, ha, hb, hq, post⟩
  change ob (leD b a) _ at hq
  cases a with
  | int i => cases b with
    | int j =>
      obtain rfl := ha.int; obtain rfl := hb.int
      exact op_ge pins s σ H _ _ v u Qv I rx ry ⟨_, _, rfl, rfl, post _ hq⟩
    | _ => exact hq.elim
  | str i => cases b with
    | str j =>
      obtain rfl := ha.str; obtain rfl := hb.str
      exact op_ge_str pins s σ H _ _ v u Qv I rx ry ⟨_, _, rfl, rfl, post _ hq⟩
    | _ => exact hq.elim
  | _ => cases b <;> exact hq.elim
theorem inD_ok {x : D} {ys : List D} {c : Bool} (h : inD x ys = some c) : (flatD x = true ∧ ys.all flatD = true ∧ c = ys.any fun y => eqF y x) ∨ ((∃ l, x = .sd l) ∧ ys.all isSt = true ∧ c = false) ∨
    ∃ d ds, x.py = some d ∧ D.pys ys = some ds ∧ SeqAt.shaped d = true ∧ PyData.canLayAll0 ds = true ∧ c = ds.any fun z => PyData.eqv z d := by
  unfold inD at h
  by_cases hh : (flatD x && ys.all flatD) = true
  · rw [if_pos hh] at h
    rw [Bool.and_eq_true] at hh
    cases h
    exact .inl ⟨hh.1, hh.2, rfl⟩
  · rw [if_neg hh] at h
    by_cases h2 : (isSd x && ys.all isSt) = true
    · rw [if_pos h2] at h
      rw [Bool.and_eq_true] at h2
      cases h
      refine .inr (.inl ⟨?_, h2.2, rfl⟩)
      cases x <;> first | exact ⟨_, rfl⟩ | (cases h2.1; done)
    rw [if_neg h2] at h
    split at h
    · rename_i p q e1 e2
      by_cases hh : (SeqAt.shaped p && PyData.canLayAll0 q) = true
      · rw [if_pos hh] at h
        rw [Bool.and_eq_true] at hh
        cases h
        exact .inr <| .inr ⟨p, q, e1, e2, hh.1, hh.2, rfl⟩
      · rw [if_neg hh] at h; cases h
    · cases h
theorem strs_eqAt {K : PySem.W.Frag} {U : Um} {H : Hp} {A : Around} {s : Shared} {p : Addr} {es : Array DictEntry} {n : Nat} (ho : s.heap.get? p = some { cls := .type "dict", data := .dict es n }) (hu : A.units < cLine) : ∀ {xs : List V} {ds : List D} {us : List Value}, DnL K ct U H xs ds → ds.all isSt = true → Vals xs us → ∀ u ∈ us, SeqAt.EqAt A s u (.ref p) false
  | _, _, _, .nil, _, .nil => fun u hm => by cases hm
  | _, _, _, .cons (d := d) h t, f, .cons r q => fun u hm => by
    rw [List.all_cons, Bool.and_eq_true] at f
    rcases List.mem_cons.mp hm with rfl | hm
    · cases d <;> first | (cases f.1; done) | skip
      cases h
      obtain ⟨t, rfl⟩ := r
      exact eq_str_dict ho hu
    · exact strs_eqAt ho hu t f.2 q u hm
theorem in_run (hu : X.A.units + 65 < cLine) {pins : List (Addr × Obj)} {s : Shared} {σ : L2.St} {H : Hp} {U : Um} {x : V} {p : Addr} {v u : Value} {Qv : VK} {xs : List V} {a : D} {ds : List D} {c : Bool} (I : Inv X pins σ H s) (rx : RelV x v) (ry : RelV (.ref p) u)
    (ha : Bn X.K ct U H x a) (hs : SqL X.K H p xs ∨ SqT X.K H p xs) (l : DnL X.K ct U H xs ds) (e : inD a ds = some c) : (Qv (.bl c) H → wpAny (model X.prog X.w) X.A (compareOp .In v u) (EP X pins σ Qv) X.xe s) ∧ (Qv (.bl (!c)) H → wpAny (model X.prog X.w) X.A (compareOp .NotIn v u) (EP X pins σ Qv) X.xe s) := by
  rcases inD_ok e with ⟨f1, f2, rfl⟩ | ⟨⟨ll, rfl⟩, f2, rfl⟩ | ⟨d, es, e1, e2, s1, s2, rfl⟩
  rotate_left
  · obtain ⟨q, rfl, hd⟩ := ha.sd
    obtain ⟨es, n, as, ho, _⟩ := sd_read I hd
    cases rx
    cases ry
    have no : ∀ its : List Value, its.toArray.any (fun _ => false) = false := fun its => by simp
    rcases hs with hs | hs
    · obtain ⟨its, rv, pl, hz⟩ := I.list hs
      have eqs := strs_eqAt (A := X.A.in1) ho (by show X.A.units + 1 < cLine; omega) l f2 rv
      exact ⟨fun q => SeqAt.in_listAt (fun _ => false) pl.isList (fun w hw => eqs w (by simpa using hw)) ⟨.bl _, H, I, by rw [no]; rfl, q⟩, fun q => SeqAt.notIn_listAt (fun _ => false) pl.isList (fun w hw => eqs w (by simpa using hw)) ⟨.bl _, H, I, by rw [no]; rfl, q⟩⟩
    · obtain ⟨its, rv, pl, hz⟩ := I.tuple hs
      have eqs := strs_eqAt (A := X.A.in1) ho (by show X.A.units + 1 < cLine; omega) l f2 rv
      exact ⟨fun q => SeqAt.in_tupleAt (fun _ => false) pl (fun w hw => eqs w (by simpa using hw)) ⟨.bl _, H, I, by rw [no]; rfl, q⟩, fun q => SeqAt.notIn_tupleAt (fun _ => false) pl (fun w hw => eqs w (by simpa using hw)) ⟨.bl _, H, I, by rw [no]; rfl, q⟩⟩
  rotate_left
  · obtain ⟨g1, _⟩ := ha.flat f1
    obtain ⟨g2, g3⟩ := l.flat f2
    have g4 : inV x xs = ds.any fun y => eqF y a := g3 a x ha f1
    refine ⟨fun q => op_in_seq pins s σ H _ _ v u Qv I rx ry ⟨p, xs, rfl, hs, g1, g2, ?_⟩, fun q => op_notIn_seq pins s σ H _ _ v u Qv I rx ry ⟨p, xs, rfl, hs, g1, g2, ?_⟩⟩
    · show Qv (.bl (inV x xs)) H; rw [g4]; exact q
    · show Qv (.bl (!inV x xs)) H; rw [g4]; exact q
  · obtain ⟨as, r1⟩ := Dp.reads I d x v (ha.dp e1 (shaped_nd s1)) rx
    have hr : X.A.units + 1 + min (PyData.depthAll es) d.depth < cLine := room_in_shaped s1 hu
    rcases hs with hs | hs
    · obtain ⟨bs, r2⟩ := Dp.reads I (.list es) (.ref p) u (.lst hs (l.dp e2 (lay_nd s2))) ry
      exact ⟨fun q => SeqAt.in_list_reads r2 r1 s2 (SeqAt.canLay_of_shaped s1) hr ⟨.bl _, H, I, rfl, q⟩, fun q => SeqAt.notIn_list_reads r2 r1 s2 (SeqAt.canLay_of_shaped s1) hr ⟨.bl _, H, I, rfl, q⟩⟩
    · obtain ⟨bs, r2⟩ := Dp.reads I (.tuple es) (.ref p) u (.tup hs (l.dp e2 (lay_nd s2))) ry
      exact ⟨fun q => SeqAt.in_tuple_reads r2 r1 s2 (SeqAt.canLay_of_shaped s1) hr ⟨.bl _, H, I, rfl, q⟩, fun q => SeqAt.notIn_tuple_reads r2 r1 s2 (SeqAt.canLay_of_shaped s1) hr ⟨.bl _, H, I, rfl, q⟩⟩
theorem oc_in (hu : X.A.units + 65 < cLine) : OpR X (compareOp .In) (rCmp X.K ct .in_) := by
  intro pins s σ H x y v u Qv I rx ry ⟨U, S, a, b, Q, ok, ha, hb, hq, post⟩
  cases b with
  | lst ds =>
    have hq : ob (inD a ds) Q := by cases a <;> exact hq
    obtain ⟨p, xs, rfl, h, l⟩ := hb.seqL
    cases e : inD a ds with
    | none => rw [e] at hq; exact hq.elim
    | some c => rw [e] at hq; exact (in_run hu I rx ry ha (.inl (.of h)) l e).1 (post _ hq)
  | tup ds =>
    have hq : ob (inD a ds) Q := by cases a <;> exact hq
    obtain ⟨p, _, xs, rfl, _, h, _, l⟩ := hb.seqT
    cases e : inD a ds with
    | none => rw [e] at hq; exact hq.elim
    | some c => rw [e] at hq; exact (in_run hu I rx ry ha (.inr (.inl (.inr ⟨_, h⟩))) l e).1 (post _ hq)
  | str z => cases a with
    | str z' =>
      obtain rfl := ha.str; obtain rfl := hb.str
      exact op_in_str pins s σ H _ _ v u Qv I rx ry ⟨_, _, rfl, rfl, post _ hq⟩
    | _ => exact hq.elim
  | _ => cases a <;> exact hq.elim
theorem oc_nin (hu : X.A.units + 65 < cLine) : OpR X (compareOp .NotIn) (rCmp X.K ct .nin) := by
  intro pins s σ H x y v u Qv I rx ry ⟨U, S, a, b, Q, ok, ha, hb, hq, post⟩
  cases b with
  | lst ds =>
    have hq : ob (inD a ds) fun c => Q (!c) := by cases a <;> exact hq
    obtain ⟨p, xs, rfl, h, l⟩ := hb.seqL
    cases e : inD a ds with
    | none => rw [e] at hq; exact hq.elim
    | some c => rw [e] at hq; exact (in_run hu I rx ry ha (.inl (.of h)) l e).2 (post _ hq)
  | tup ds =>
    have hq : ob (inD a ds) fun c => Q (!c) := by cases a <;> exact hq
    obtain ⟨p, _, xs, rfl, _, h, _, l⟩ := hb.seqT
    cases e : inD a ds with
    | none => rw [e] at hq; exact hq.elim
    | some c => rw [e] at hq; exact (in_run hu I rx ry ha (.inr (.inl (.inr ⟨_, h⟩))) l e).2 (post _ hq)
  | str z => cases a with
    | str z' =>
      obtain rfl := ha.str; obtain rfl := hb.str
      exact op_notin_str pins s σ H _ _ v u Qv I rx ry ⟨_, _, rfl, rfl, post _ hq⟩
    | _ => exact hq.elim
  | _ => cases a <;> exact hq.elim
theorem Bn.isNon {K : PySem.W.Frag} {U : Um} {H : Hp} {v : V} {d : D} (h : Bn K ct U H v d) : decide (v = .non) = (match d with | .none => true | _ => false) := by
  cases h with
  | of h => cases h <;> simp
  | lst _ _ _ => simp
theorem oc_isn : OpR X (compareOp .Is) (rCmp X.K ct .isn) := by
  intro pins s σ H x y v u Qv I rx ry ⟨U, S, a, b, Q, ok, ha, hb, hq, post⟩
  cases b with
  | none =>
    refine op_isN pins s σ H _ _ v u Qv I rx ry ⟨hb.non, ?_⟩
    rw [ha.isNon]
    refine post _ ?_
    cases a <;> exact hq
  | bool y' =>
    cases a with
    | bool x' =>
      obtain rfl := ha.bl; obtain rfl := hb.bl
      refine op_isBl pins s σ H _ _ v u Qv I rx ry ⟨x', y', rfl, rfl, ?_⟩
      have := post _ hq
      rwa [show (x' == y') = decide (x' = y') from rfl] at this
    | _ => exact hq.elim
  | _ => exact hq.elim
theorem oc_notn : OpR X (compareOp .IsNot) (rCmp X.K ct .notn) := by
  intro pins s σ H x y v u Qv I rx ry ⟨U, S, a, b, Q, ok, ha, hb, hq, post⟩
  cases b with
  | none =>
    refine op_notN pins s σ H _ _ v u Qv I rx ry ⟨hb.non, ?_⟩
    rw [ha.isNon]
    refine post _ ?_
    cases a <;> exact hq
  | bool y' =>
    cases a with
    | bool x' =>
      obtain rfl := ha.bl; obtain rfl := hb.bl
      refine op_notBl pins s σ H _ _ v u Qv I rx ry ⟨x', y', rfl, rfl, ?_⟩
      have := post _ hq
      rwa [show (x' == y') = decide (x' = y') from rfl] at this
    | _ => exact hq.elim
  | _ => exact hq.elim
def opC : Co → CmpOp
  | .eq => .Eq | .ne => .NotEq | .lt => .Lt | .le => .LtE | .gt => .Gt | .ge => .GtE | .isn => .Is | .notn => .IsNot | .in_ => .In | .nin => .NotIn
theorem oc_all (hu : X.A.units + 65 < cLine) : ∀ o : Co, OpR X (compareOp (opC o)) (rCmp X.K ct o)
  | .eq => oc_eq (by omega) | .ne => oc_ne (by omega) | .lt => oc_lt | .le => oc_le | .gt => oc_gt | .ge => oc_ge | .isn => oc_isn | .notn => oc_notn | .in_ => oc_in hu | .nin => oc_nin hu
end
end Sb
set_option linter.all false
set_option maxRecDepth 20000
set_option maxHeartbeats 1000000
set_option autoImplicit false
/-! A5: subscripts, slices, built-in functions, methods, by values. -/
namespace Sb
open PySem PySem.Spec PyProof.Rows L2
section
variable (K : PySem.W.Frag) (ct : CT)
/-- as a value looked at just now: a list of the store, too -/
inductive Bm (U : Um) (H : Hp) : V → D → Prop
  | of {v : V} {d : D} : Bn K ct U H v d → Bm U H v d
  | ce {a : Addr} {xs : List V} {ds : List D} : H a = some (.lst xs) → DnL K ct U H xs ds → Bm U H (.ref a) (.lst ds)
def rIx_ : R2 := fun x y H Qv => ∃ U S a b Q, Ok K ct U S H ∧ Bm K ct U H x a ∧ Bn K ct U H y b ∧ ixD a b Q ∧ PoD K ct U S H Q Qv
def rSl_ : V → Option Int → Option Int → Hp → VK → Prop := fun x lo hi H Qv => ∃ U S a Q, Ok K ct U S H ∧ Bn K ct U H x a ∧ slD a lo hi Q ∧ PoF K ct U S H Q Qv
def rBi (b : Bi) : List V → Hp → VK → Prop := fun vs H Qv => ∃ U S ds Q, Ok K ct U S H ∧ BnL K ct U H vs ds ∧ biD b ds Q ∧ PoF K ct U S H Q Qv
def rMt (m : Mt) : V → List V → Hp → VK → Prop := fun x vs H Qv => ∃ U S a ds Q, Ok K ct U S H ∧ Bn K ct U H x a ∧ BnL K ct U H vs ds ∧ mtD m a ds Q ∧ PoF K ct U S H Q Qv
end
section
variable {K : PySem.W.Frag} {ct : CT} {U : Um} {H : Hp}
theorem Bm.seqL {v : V} {ds : List D} (h : Bm K ct U H v (.lst ds)) : ∃ a xs, v = .ref a ∧ H a = some (.lst xs) ∧ DnL K ct U H xs ds := by
  cases h with
  | of h => exact h.seqL
  | ce h l => exact ⟨_, _, rfl, h, l⟩
theorem Bm.bn {v : V} {d : D} (h : Bm K ct U H v d) (n : ∀ ds, d ≠ .lst ds) : Bn K ct U H v d := by
  cases h with
  | of h => exact h
  | ce _ _ => exact absurd rfl (n _)
theorem DnL.ints {vs : List V} {ds : List D} {ns : List Int} (h : DnL K ct U H vs ds) (e : intsD ds = some ns) : vs = ns.map V.int := by
  induction h using DnL.rec (motive_1 := fun _ _ _ => True) generalizing ns with
  | nil => cases e; rfl
  | @cons v vs d ds h t ih1 ih2 =>
    cases d with
    | int i =>
      simp only [intsD, Option.map_eq_some_iff] at e
      obtain ⟨ms, e, rfl⟩ := e
      cases h
      rw [ih2 e] <;> rfl
    | _ => cases e
  | _ => trivial
theorem DnL.bls {vs : List V} {ds : List D} {ns : List Bool} (h : DnL K ct U H vs ds) (e : boolsD ds = some ns) : vs = ns.map V.bl := by
  induction h using DnL.rec (motive_1 := fun _ _ _ => True) generalizing ns with
  | nil => cases e; rfl
  | @cons v vs d ds h t ih1 ih2 =>
    cases d with
    | bool i =>
      simp only [boolsD, Option.map_eq_some_iff] at e
      obtain ⟨ms, e, rfl⟩ := e
      cases h
      rw [ih2 e] <;> rfl
    | _ => cases e
  | _ => trivial
theorem DnL.strs {vs : List V} {ds : List D} {ns : List Str} (h : DnL K ct U H vs ds) (e : strsD ds = some ns) : vs = ns.map V.str := by
  induction h using DnL.rec (motive_1 := fun _ _ _ => True) generalizing ns with
  | nil => cases e; rfl
  | @cons v vs d ds h t ih1 ih2 =>
    cases d with
    | str i =>
      simp only [strsD, Option.map_eq_some_iff] at e
      obtain ⟨ms, e, rfl⟩ := e
      cases h
      rw [ih2 e] <;> rfl
    | _ => cases e
  | _ => trivial
theorem DnL.ofInts : ∀ ns : List Int, DnL K ct U H (ns.map V.int) (ns.map D.int)
  | [] => .nil
  | n :: r => .cons (.int n) (DnL.ofInts r)
theorem DnL.ofStrs : ∀ ns : List Str, DnL K ct U H (ns.map V.str) (ns.map D.str)
  | [] => .nil
  | n :: r => .cons (.str n) (DnL.ofStrs r)
theorem DnL.cut {vs : List V} {ds : List D} (h : DnL K ct U H vs ds) (lo hi : Option Int) : DnL K ct U H (cutV vs lo hi) (Sb.cut ds lo hi) := by
  unfold cutV Sb.cut
  rw [h.length]
  exact (h.drop _).take _
theorem atI_len {α β : Type} {xs : List α} {ys : List β} (e : xs.length = ys.length) {i : Int} {v : β} (h : atI ys i = some v) : ∃ j : Nat, ys[j]? = some v ∧ ∀ u, xs[j]? = some u → atI xs i = some u := by
  unfold atI at h
  cases q : ixN ys.length i with
  | none => rw [q] at h; cases h
  | some j =>
    rw [q] at h
    refine ⟨j, h, fun u hu => ?_⟩
    unfold atI
    rw [e, q]
    exact hu
theorem minI_mem : ∀ {ns : List Int}, ns ≠ [] → minI ns ∈ ns
  | [x], _ => by simp [minI]
  | x :: y :: r, _ => by
    have ih := minI_mem (ns := y :: r) (by simp)
    show (if minI (y :: r) < x then minI (y :: r) else x) ∈ x :: y :: r
    split
    · exact List.mem_cons_of_mem _ ih
    · exact List.mem_cons_self
theorem minI_le : ∀ {ns : List Int} {y : Int}, y ∈ ns → minI ns ≤ y
  | [x], y, h => by simp only [List.mem_singleton] at h; subst h; simp [minI]
  | x :: z :: r, y, h => by
    have ih : ∀ y, y ∈ z :: r → minI (z :: r) ≤ y := fun y hy => minI_le hy
    show (if minI (z :: r) < x then minI (z :: r) else x) ≤ y
    rcases List.mem_cons.mp h with e | h
    · subst e; split <;> omega
    · have := ih y h; split <;> omega
theorem maxI_mem : ∀ {ns : List Int}, ns ≠ [] → maxI ns ∈ ns
  | [x], _ => by simp [maxI]
  | x :: y :: r, _ => by
    have ih := maxI_mem (ns := y :: r) (by simp)
    show (if x < maxI (y :: r) then maxI (y :: r) else x) ∈ x :: y :: r
    split
    · exact List.mem_cons_of_mem _ ih
    · exact List.mem_cons_self
theorem le_maxI : ∀ {ns : List Int} {y : Int}, y ∈ ns → y ≤ maxI ns
  | [x], y, h => by simp only [List.mem_singleton] at h; subst h; simp [maxI]
  | x :: z :: r, y, h => by
    have ih : ∀ y, y ∈ z :: r → y ≤ maxI (z :: r) := fun y hy => le_maxI hy
    show y ≤ (if x < maxI (z :: r) then maxI (z :: r) else x)
    rcases List.mem_cons.mp h with e | h
    · subst e; split <;> omega
    · have := ih y h; split <;> omega
end
section
variable {X : Cx} {ct : CT}
theorem oi_ix : IxR X (rIx_ X.K ct) := by
  intro value slice pins s σ H x y v u Qv I rx ry ⟨U, S, a, b, Q, ok, ha, hb, hq, post⟩ hpl
  cases b with
  | int k =>
    obtain rfl := hb.int
    cases a with
    | lst ds =>
      obtain ⟨p, xs, rfl, h, l⟩ := ha.seqL
      simp only [ixD] at hq
      cases e : atI ds k with
      | none => rw [e] at hq; exact hq.elim
      | some d =>
        rw [e] at hq
        obtain ⟨j, h1, h2⟩ := atI_len l.length e
        obtain ⟨w', h3, h4⟩ := l.get j h1
        exact ix_list value slice pins s σ H _ _ v u Qv I rx ry ⟨p, xs, k, w', rfl, rfl, .of h, h2 _ h3, post _ _ _ _ Kp.refl ok h4 hq⟩ hpl
    | tup ds =>
      obtain ⟨p, _, xs, rfl, _, h, _, l⟩ := (ha.bn fun _ e => nomatch e).seqT
      simp only [ixD] at hq
      cases e : atI ds k with
      | none => rw [e] at hq; exact hq.elim
      | some d =>
        rw [e] at hq
        obtain ⟨j, h1, h2⟩ := atI_len l.length e
        obtain ⟨w', h3, h4⟩ := l.get j h1
        exact ix_tup value slice pins s σ H _ _ v u Qv I rx ry ⟨p, xs, k, w', rfl, rfl, .inl (.inr ⟨_, h⟩), h2 _ h3, post _ _ _ _ Kp.refl ok h4 hq⟩ hpl
    | scr ns =>
      obtain ⟨p, rfl, h⟩ := (ha.bn fun _ e => nomatch e).scr
      simp only [ixD] at hq
      cases e : atI ns k with
      | none => rw [e] at hq; exact hq.elim
      | some d =>
        rw [e] at hq
        obtain ⟨j, h1, h2⟩ := atI_len (xs := ns.map V.int) (by rw [List.length_map]) e
        exact ix_list value slice pins s σ H _ _ v u Qv I rx ry ⟨p, _, k, .int d, rfl, rfl, h, h2 _ (by rw [List.getElem?_map, h1]; rfl), post _ _ _ _ Kp.refl ok (.int d) hq⟩ hpl
    | str z =>
      obtain rfl := (ha.bn fun _ e => nomatch e).str
      simp only [ixD] at hq
      obtain ⟨hz, hq⟩ := hq
      cases e : atI z.cps.toList k with
      | none => rw [e] at hq; exact hq.elim
      | some c =>
        rw [e] at hq
        exact ix_str value slice pins s σ H _ _ v u Qv I rx ry ⟨z, k, c, rfl, rfl, hz, e, post _ _ _ _ Kp.refl ok (.str _) hq⟩ hpl
    | _ => exact hq.elim
  | _ => cases a <;> exact hq.elim
theorem os_sl : SlR X (rSl_ X.K ct) := by
  intro pins s σ H x v vl vu lo hi sl Qv I rx hs pl pu ⟨U, S, a, Q, ok, ha, hq, post⟩
  cases a with
  | lst ds =>
    obtain ⟨p, xs, rfl, h, l⟩ := ha.seqL
    exact sl_list pins s σ H _ v vl vu lo hi sl Qv I rx hs pl pu ⟨p, xs, rfl, .of h, fun q hq' => post _ _ _ _ (Kp.new hq') (ok.new hq') (Fr_.new ok hq' hq' (l.cut lo hi)) hq⟩
  | scr ns =>
    obtain ⟨p, rfl, h⟩ := ha.scr
    have e : cutV (ns.map V.int) lo hi = (Sb.cut ns lo hi).map V.int := by
      unfold cutV Sb.cut
      rw [List.map_take, List.map_drop, List.length_map]
    refine sl_list pins s σ H _ v vl vu lo hi sl Qv I rx hs pl pu ⟨p, _, rfl, h, fun q hq' => ?_⟩
    rw [e]
    exact post _ _ _ _ (Kp.new hq') (ok.new hq') (Fr_.new ok hq' hq' (DnL.ofInts _)) hq
  | tup ds =>
    obtain ⟨p, o1, xs, rfl, k, h, t1, l⟩ := ha.seqT
    have hx : SqT X.K H p xs := .inl (.inr ⟨_, h⟩)
    cases rx
    obtain ⟨its, r, ht, hz⟩ := I.tuple hx
    have hlen : its.toArray.size = xs.length := by rw [List.size_toArray]; exact r.length.symm
    refine ⟨"tuple", _, PyProof.Rows.slot_tuple_getitem.lookup, ht.typeIs, ?_⟩
    by_cases hw : HT.sIx xs.length 0 lo = 0 ∧ HT.sIx xs.length xs.length hi = xs.length
    · have e : Sb.cut ds lo hi = ds := by
        unfold Sb.cut
        rw [← l.length, hw.1, hw.2, List.drop_zero, Nat.sub_zero, l.length, List.take_length]
      rw [show slD (.tup ds) lo hi Q = Q (.tup (Sb.cut ds lo hi)) from rfl, e] at hq
      exact getItem_tuple_whole ht hs pl pu (by rw [hlen]; exact hw) ⟨.ref p, H, I, rfl, post _ _ _ _ Kp.refl ok (Dn.flat (.tup k h t1 l) fun _ e => nomatch e) hq⟩
    · refine HT.getItem_tuple_cut ht hs pl pu (by rw [hlen]; exact hw) ?_ (by rw [hlen]; exact hz)
      rw [hlen]
      have hr : H s.heap.objs.size = none := I.hok.fresh (Nat.le_refl _)
      exact ⟨.ref s.heap.objs.size, _, I.newTup ((r.drop (HT.sIx xs.length 0 lo)).take (HT.sIx xs.length xs.length hi - HT.sIx xs.length 0 lo)) (Nat.le_trans (cutV_length xs lo hi) hz), rfl,
        post _ _ _ _ (Kp.new hr) (ok.new hr) (Dn.flat (Dn.newT ok hr ⟨rfl, rfl⟩ (l.cut lo hi)) fun _ e => nomatch e) hq⟩
  | str z =>
    obtain rfl := ha.str
    exact sl_str pins s σ H _ v vl vu lo hi sl Qv I rx hs pl pu ⟨z, rfl, hq.1, post _ _ _ _ Kp.refl ok (Dn.flat (.str _) fun _ e => nomatch e) hq.2⟩
  | _ => exact hq.elim
theorem Fr_.i {K : PySem.W.Frag} {H : Hp} {U : Um} {H' : Hp} {n m : Int} (e : n = m) : Fr_ K ct H U H' (.int n) (.int m) := e ▸ Dn.flat (.int n) fun _ e => nomatch e
theorem BnL.nil_ {K : PySem.W.Frag} {U : Um} {H : Hp} {vs : List V} (h : BnL K ct U H vs []) : vs = [] := by cases h; rfl
theorem BnL.one {K : PySem.W.Frag} {U : Um} {H : Hp} {vs : List V} {d : D} (h : BnL K ct U H vs [d]) : ∃ v, vs = [v] ∧ Bn K ct U H v d := by
  cases h with
  | cons h t => cases t; exact ⟨_, rfl, h⟩
theorem BnL.two {K : PySem.W.Frag} {U : Um} {H : Hp} {vs : List V} {d e : D} (h : BnL K ct U H vs [d, e]) : ∃ v u, vs = [v, u] ∧ Bn K ct U H v d ∧ Bn K ct U H u e := by
  cases h with
  | cons h t => obtain ⟨u, rfl, h2⟩ := t.one; exact ⟨_, _, rfl, h, h2⟩
theorem cb_len : CallR X (.builtin "len") (rBi X.K ct .len) := by
  intro pins s σ H vs us Qv I r ⟨U, S, ds, Q, ok, hb, hq, post⟩
  match ds, hb, hq with
  | [.lst es], hb, hq =>
    obtain ⟨v, rfl, b1⟩ := hb.one
    obtain ⟨p, xs, rfl, h, l⟩ := b1.seqL
    exact call_len_seq pins s σ H _ us Qv I r ⟨p, xs, rfl, .inl (.of h), post _ _ _ _ Kp.refl ok (Fr_.i (by rw [l.length])) hq⟩
  | [.tup es], hb, hq =>
    obtain ⟨v, rfl, b1⟩ := hb.one
    obtain ⟨p, _, xs, rfl, _, h, _, l⟩ := b1.seqT
    exact call_len_seq pins s σ H _ us Qv I r ⟨p, xs, rfl, .inr (.inl (.inr ⟨_, h⟩)), post _ _ _ _ Kp.refl ok (Fr_.i (by rw [l.length])) hq⟩
  | [.scr ns], hb, hq =>
    obtain ⟨v, rfl, b1⟩ := hb.one
    obtain ⟨p, rfl, h⟩ := b1.scr
    exact call_len_seq pins s σ H _ us Qv I r ⟨p, _, rfl, .inl h, post _ _ _ _ Kp.refl ok (Fr_.i (by rw [List.length_map])) hq⟩
  | [.str z], hb, hq =>
    obtain ⟨v, rfl, b1⟩ := hb.one
    obtain rfl := b1.str
    exact call_len_str pins s σ H _ us Qv I r ⟨z, rfl, hq.1, post _ _ _ _ Kp.refl ok (Dn.flat (.int _) fun _ e => nomatch e) hq.2⟩
theorem oi_ok {o : Option (List Int)} {Q : List Int → Prop} (h : oi o Q) : ∃ ns, o = some ns ∧ Q ns := by
  cases o with
  | none => exact h.elim
  | some ns => exact ⟨ns, rfl, h⟩
theorem obs_ok {o : Option (List Bool)} {Q : List Bool → Prop} (h : obs o Q) : ∃ ns, o = some ns ∧ Q ns := by
  cases o with
  | none => exact h.elim
  | some ns => exact ⟨ns, rfl, h⟩
theorem oss_ok {o : Option (List Str)} {Q : List Str → Prop} (h : oss o Q) : ∃ ns, o = some ns ∧ Q ns := by
  cases o with
  | none => exact h.elim
  | some ns => exact ⟨ns, rfl, h⟩
theorem onat_ok {o : Option Nat} {Q : Nat → Prop} (h : onat o Q) : ∃ ns, o = some ns ∧ Q ns := by
  cases o with
  | none => exact h.elim
  | some ns => exact ⟨ns, rfl, h⟩
theorem cb_sum (hc : X.calm = true) : CallR X (.builtin "sum") (rBi X.K ct .sum) := by
  intro pins s σ H vs us Qv I r ⟨U, S, ds, Q, ok, hb, hq, post⟩
  match ds, hb, hq with
  | [.lst es], hb, hq =>
    obtain ⟨v, rfl, b1⟩ := hb.one
    obtain ⟨p, xs, rfl, h, l⟩ := b1.seqL
    obtain ⟨ns, e, hq⟩ := oi_ok hq
    obtain rfl := l.ints e
    exact cr_sum hc pins s σ H _ us Qv I r ⟨p, ns, rfl, .of h, post _ _ _ _ Kp.refl ok (Dn.flat (.int _) fun _ e => nomatch e) hq⟩
theorem cb_min (hc : X.calm = true) : CallR X (.builtin "min") (rBi X.K ct .min) := by
  intro pins s σ H vs us Qv I r ⟨U, S, ds, Q, ok, hb, hq, post⟩
  match ds, hb, hq with
  | [.lst es], hb, hq =>
    obtain ⟨v, rfl, b1⟩ := hb.one
    obtain ⟨p, xs, rfl, h, l⟩ := b1.seqL
    obtain ⟨ns, e, hn, hq⟩ := oi_ok hq
    obtain rfl := l.ints e
    refine cr_min hc pins s σ H _ us Qv I r ⟨p, ns, rfl, .of h, List.length_pos_iff.mpr hn, fun m h1 h2 => ?_⟩
    have e : m = minI ns := Int.le_antisymm (h2 _ (minI_mem hn)) (minI_le h1)
    rw [e]
    exact post _ _ _ _ Kp.refl ok (Dn.flat (.int _) fun _ e => nomatch e) hq
  | [.int i, .int j], hb, hq =>
    obtain ⟨v, v', rfl, h1, h2⟩ := hb.two
    obtain rfl := h1.int; obtain rfl := h2.int
    exact call_min2 hc pins s σ H _ us Qv I r ⟨i, j, rfl, post _ _ _ _ Kp.refl ok (Dn.flat (.int _) fun _ e => nomatch e) hq⟩
theorem cb_max (hc : X.calm = true) : CallR X (.builtin "max") (rBi X.K ct .max) := by
  intro pins s σ H vs us Qv I r ⟨U, S, ds, Q, ok, hb, hq, post⟩
  match ds, hb, hq with
  | [.lst es], hb, hq =>
    obtain ⟨v, rfl, b1⟩ := hb.one
    obtain ⟨p, xs, rfl, h, l⟩ := b1.seqL
    obtain ⟨ns, e, hn, hq⟩ := oi_ok hq
    obtain rfl := l.ints e
    refine cr_max hc pins s σ H _ us Qv I r ⟨p, ns, rfl, .of h, List.length_pos_iff.mpr hn, fun m h1 h2 => ?_⟩
    have e : m = maxI ns := Int.le_antisymm (le_maxI h1) (h2 _ (maxI_mem hn))
    rw [e]
    exact post _ _ _ _ Kp.refl ok (Dn.flat (.int _) fun _ e => nomatch e) hq
  | [.int i, .int j], hb, hq =>
    obtain ⟨v, v', rfl, h1, h2⟩ := hb.two
    obtain rfl := h1.int; obtain rfl := h2.int
    exact call_max2 hc pins s σ H _ us Qv I r ⟨i, j, rfl, post _ _ _ _ Kp.refl ok (Dn.flat (.int _) fun _ e => nomatch e) hq⟩
theorem cb_all (hc : X.calm = true) : CallR X (.builtin "all") (rBi X.K ct .all) := by
  intro pins s σ H vs us Qv I r ⟨U, S, ds, Q, ok, hb, hq, post⟩
  match ds, hb, hq with
  | [.lst es], hb, hq =>
    obtain ⟨v, rfl, b1⟩ := hb.one
    obtain ⟨p, xs, rfl, h, l⟩ := b1.seqL
    obtain ⟨ns, e, hq⟩ := obs_ok hq
    obtain rfl := l.bls e
    exact cr_all hc pins s σ H _ us Qv I r ⟨p, ns, rfl, .of h, post _ _ _ _ Kp.refl ok (Dn.flat (.bl _) fun _ e => nomatch e) hq⟩
theorem cb_any (hc : X.calm = true) : CallR X (.builtin "any") (rBi X.K ct .any) := by
  intro pins s σ H vs us Qv I r ⟨U, S, ds, Q, ok, hb, hq, post⟩
  match ds, hb, hq with
  | [.lst es], hb, hq =>
    obtain ⟨v, rfl, b1⟩ := hb.one
    obtain ⟨p, xs, rfl, h, l⟩ := b1.seqL
    obtain ⟨ns, e, hq⟩ := obs_ok hq
    obtain rfl := l.bls e
    exact cr_any hc pins s σ H _ us Qv I r ⟨p, ns, rfl, .of h, post _ _ _ _ Kp.refl ok (Dn.flat (.bl _) fun _ e => nomatch e) hq⟩
theorem cb_tuple : CallR X (.type "tuple") (rBi X.K ct .tuple) := by
  intro pins s σ H vs us Qv I r ⟨U, S, ds, Q, ok, hb, hq, post⟩
  match ds, hb, hq with
  | [.lst es], hb, hq =>
    obtain ⟨v, rfl, b1⟩ := hb.one
    obtain ⟨p, xs, rfl, h, l⟩ := b1.seqL
    obtain ⟨u, rfl, rx⟩ := vals1 r
    cases rx
    obtain ⟨its, r', pl, hz⟩ := I.list (.of h)
    have hlen := r'.length
    refine call_tuple_list pl.isList (fun h' kp => ?_) (by simp only [List.size_toArray] <;> omega)
    have I1 : Inv X pins σ H { s with heap := h' } := I.kept (t' := s.toks) kp
    have hr : H h'.objs.size = none := I1.hok.fresh (Nat.le_refl _)
    exact ⟨.ref h'.objs.size, _, I1.newTup r' hz, rfl, post _ _ _ _ (Kp.new hr) (ok.new hr) (Dn.flat (Dn.newT ok hr ⟨rfl, rfl⟩ l) fun _ e => nomatch e) hq⟩
  | [.tup es], hb, hq =>
    obtain ⟨v, rfl, b1⟩ := hb.one
    obtain ⟨p, _, xs, rfl, k, h, t1, l⟩ := b1.seqT
    exact call_tuple_of pins s σ H _ us Qv I r ⟨p, xs, rfl, .inr ⟨.inl (.inr ⟨_, h⟩), post _ _ _ _ Kp.refl ok (Dn.flat (.tup k h t1 l) fun _ e => nomatch e) hq⟩⟩
theorem cb_list : CallR X (.type "list") (rBi X.K ct .list) := by
  intro pins s σ H vs us Qv I r ⟨U, S, ds, Q, ok, hb, hq, post⟩
  match ds, hb, hq with
  | [.lst es], hb, hq =>
    obtain ⟨v, rfl, b1⟩ := hb.one
    obtain ⟨p, xs, rfl, h, l⟩ := b1.seqL
    exact call_list_of pins s σ H _ us Qv I r ⟨p, xs, rfl, .inl (.of h), fun q hq' => post _ _ _ _ (Kp.new hq') (ok.new hq') (Fr_.new ok hq' hq' l) hq⟩
  | [.tup es], hb, hq =>
    obtain ⟨v, rfl, b1⟩ := hb.one
    obtain ⟨p, _, xs, rfl, k, h, _, l⟩ := b1.seqT
    exact call_list_of pins s σ H _ us Qv I r ⟨p, xs, rfl, .inr (.inl (.inr ⟨_, h⟩)), fun q hq' => post _ _ _ _ (Kp.new hq') (ok.new hq') (Fr_.new ok hq' hq' l) hq⟩
theorem cb_str : CallR X (.type "str") (rBi X.K ct .str) := by
  intro pins s σ H vs us Qv I r ⟨U, S, ds, Q, ok, hb, hq, post⟩
  match ds, hb, hq with
  | [.int i], hb, hq =>
    obtain ⟨v, rfl, b1⟩ := hb.one
    obtain rfl := b1.int
    exact call_str_int pins s σ H _ us Qv I r ⟨i, rfl, hq.1, post _ _ _ _ Kp.refl ok (Dn.flat (.str _) fun _ e => nomatch e) hq.2⟩
theorem cb_int : CallR X (.type "int") (rBi X.K ct .int) := by
  intro pins s σ H vs us Qv I r ⟨U, S, ds, Q, ok, hb, hq, post⟩
  match ds, hb, hq with
  | [.int i], hb, hq =>
    obtain ⟨v, rfl, b1⟩ := hb.one
    obtain rfl := b1.int
    exact call_int1 pins s σ H _ us Qv I r (.inl ⟨i, rfl, post _ _ _ _ Kp.refl ok (Dn.flat (.int _) fun _ e => nomatch e) hq⟩)
  | [.bool k], hb, hq =>
    obtain ⟨v, rfl, b1⟩ := hb.one
    obtain rfl := b1.bl
    exact call_int1 pins s σ H _ us Qv I r (.inr ⟨k, rfl, post _ _ _ _ Kp.refl ok (Dn.flat (.int _) fun _ e => nomatch e) hq⟩)
theorem cb_abs : CallR X (.builtin "abs") (rBi X.K ct .abs) := by
  intro pins s σ H vs us Qv I r ⟨U, S, ds, Q, ok, hb, hq, post⟩
  match ds, hb, hq with
  | [.int i], hb, hq =>
    obtain ⟨v, rfl, b1⟩ := hb.one
    obtain rfl := b1.int
    exact call_abs pins s σ H _ us Qv I r ⟨i, rfl, post _ _ _ _ Kp.refl ok (Dn.flat (.int _) fun _ e => nomatch e) hq⟩
theorem cb_divmod : CallR X (.builtin "divmod") (rBi X.K ct .divmod) := by
  intro pins s σ H vs us Qv I r ⟨U, S, ds, Q, ok, hb, hq, post⟩
  match ds, hb, hq with
  | [.int i, .int j], hb, hq =>
    obtain ⟨v, v', rfl, h1, h2⟩ := hb.two
    obtain rfl := h1.int; obtain rfl := h2.int
    have hd : CDivW i j := hq.1.ok
    have h0 : (0 : Int) < j := hd.1
    obtain ⟨u, w', rfl, ⟨t, rfl⟩, ⟨t', rfl⟩⟩ := vals2 r
    refine divmod_int (by omega) ?_ (.inl (PyProof.noPylong_of_log2 hd.2))
    rw [Int.fdiv_eq_ediv_of_nonneg i (by omega), Int.fmod_eq_emod_of_nonneg i (by omega)]
    have hr : H s.heap.objs.size = none := I.hok.fresh (Nat.le_refl _)
    refine ⟨.ref s.heap.objs.size, _, ?_, rfl, post _ _ _ _ (Kp.new hr) (ok.new hr) (Dn.flat (Dn.newT ok hr (ob := tupO [.int (i / j) s.toks, .int (i % j) (s.toks + 1)]) (xs := [.int (i / j), .int (i % j)]) ⟨rfl, rfl⟩ (.cons (.int _) (.cons (.int _) .nil))) fun _ e => nomatch e) hq.2⟩
    exact I.laid (o := .frz (tupO [.int (i / j) s.toks, .int (i % j) (s.toks + 1)]) (.tup [.int (i / j), .int (i % j)])) (fun b o e => Heap.get?_push_of_some _ e) (Nat.le_refl _)
      ⟨Heap.get?_push_size _ rfl, by simp only [List.length_cons, List.length_nil]; rw [sizeLine_eq]; decide, [.int (i / j) s.toks, .int (i % j) (s.toks + 1)], .cons ⟨_, rfl⟩ (.cons ⟨_, rfl⟩ .nil), IsTup.new _ _⟩
mutual
theorem Dn.rdn {pins : List (Addr × Obj)} {σ : L2.St} {H : Hp} {s : Shared} {U : Um} (I : Inv X pins σ H s) : ∀ {v : V} {d : D} {p : PyData} {u : Value}, Dn X.K ct U H v d → d.py = some p → RelV v u → ∃ as, RdN s.heap u p as
  | _, _, _, _, .non, e, r => by cases e; cases r; exact ⟨_, .flat .none rfl⟩
  | _, _, _, _, .bl b, e, r => by cases e; cases r; exact ⟨_, .flat (.bool b) rfl⟩
  | _, _, _, _, .int i, e, r => by cases e; obtain ⟨t, rfl⟩ := r; exact ⟨_, .flat (.int i t) rfl⟩
  | _, _, _, _, .str x, e, r => by cases e; obtain ⟨t, rfl⟩ := r; exact ⟨_, .flat (.str x t) rfl⟩
  | _, _, _, _, .lst k h l, e, r => by
    simp only [D.py, Option.map_eq_some_iff] at e
    obtain ⟨ps, e, rfl⟩ := e
    cases r
    obtain ⟨its, rv, ⟨o, n, ho, hc, _, hd⟩, _⟩ := I.list (.of h)
    obtain ⟨as, g⟩ := DnL.rdn I l e rv
    exact ⟨_, .lst ho hc hd g⟩
  | _, _, _, _, .tup k h _ l, e, r => by
    simp only [D.py, Option.map_eq_some_iff] at e
    obtain ⟨ps, e, rfl⟩ := e
    cases r
    obtain ⟨its, rv, ⟨o, ho, hc, n, hd⟩, _⟩ := I.tuple (.inl (.inr ⟨_, h⟩))
    obtain ⟨as, g⟩ := DnL.rdn I l e rv
    exact ⟨_, .tup ho hc hd g⟩
  | _, _, _, _, .scr k, e, _ => by cases e
  | _, _, _, _, .obj _ _ _ _, e, _ => by cases e
  | _, _, _, _, .cls c, e, _ => by cases e
  | _, _, _, _, .sd k h, e, r => by
    cases e
    cases r
    obtain ⟨es, n, as, _, g⟩ := sd_read I h
    exact ⟨_, g⟩
  | _, _, _, _, .ptr k, e, _ => by cases e
  | _, _, _, _, .exc _ _ _ _ _, e, _ => by cases e
theorem DnL.rdn {pins : List (Addr × Obj)} {σ : L2.St} {H : Hp} {s : Shared} {U : Um} (I : Inv X pins σ H s) : ∀ {vs : List V} {ds : List D} {ps : List PyData} {us : List Value}, DnL X.K ct U H vs ds → D.pys ds = some ps → Vals vs us → ∃ as, RdL s.heap us ps as
  | _, _, _, _, .nil, e, .nil => by cases e; exact ⟨_, .nil⟩
  | _, _, _, _, .cons (d := d) (ds := ds) h t, e, .cons r q => by
    simp only [D.pys] at e
    cases e1 : d.py with
    | none => rw [e1] at e; cases e
    | some p =>
      cases e2 : D.pys ds with
      | none => rw [e1, e2] at e; cases e
      | some ps =>
        rw [e1, e2] at e
        cases e
        obtain ⟨as, g1⟩ := Dn.rdn I h e1 r
        obtain ⟨bs, g2⟩ := DnL.rdn I t e2 q
        exact ⟨_, .cons g1 g2⟩
end
theorem Bn.rdn {pins : List (Addr × Obj)} {σ : L2.St} {H : Hp} {s : Shared} {U : Um} {v : V} {d : D} {p : PyData} {u : Value} (h : Bn X.K ct U H v d) (I : Inv X pins σ H s) (e : d.py = some p) (r : RelV v u) : ∃ as, RdN s.heap u p as := by
  cases h with
  | of h => exact h.rdn I e r
  | lst k h l =>
    simp only [D.py, Option.map_eq_some_iff] at e
    obtain ⟨ps, e, rfl⟩ := e
    cases r
    obtain ⟨its, rv, ⟨o, n, ho, hc, _, hd⟩, _⟩ := I.list (.of h)
    obtain ⟨as, g⟩ := l.rdn I e rv
    exact ⟨_, .lst ho hc hd g⟩
theorem cb_repr (hg : X.A.guards = some []) (hu : X.A.units + 64 < cLine) : CallR X (.builtin "repr") (rBi X.K ct .repr) := by
  intro pins s σ H vs us Qv I r ⟨U, S, ds, Q, ok, hb, hq, post⟩
  match ds, hb, hq with
  | [d], hb, hq =>
    obtain ⟨v, rfl, b1⟩ := hb.one
    change reprD d Q at hq
    unfold reprD at hq
    cases e : d.py with
    | none => rw [e] at hq; exact hq.elim
    | some p =>
      rw [e] at hq
      obtain ⟨⟨q1, q2, q3⟩, hq⟩ := hq
      obtain ⟨u, rfl, ru⟩ := vals1 r
      have fin : ∀ {s'} {t}, Inv X pins σ H s' → EP X pins σ Qv (.str p.shown t) s' := fun {s' t} J => ⟨.str p.shown, H, J, ⟨_, rfl⟩, post _ _ _ _ Kp.refl ok (Dn.flat (.str _) fun _ e => nomatch e) hq⟩
      obtain ⟨as, rd⟩ := b1.rdn I e ru
      have go : ∀ a, u = .ref a → wpAny (model X.prog X.w) X.A (call (.builtin "repr") [u]) (EP X pins σ Qv) X.xe s := fun a ea => by
        subst ea
        exact rd.run q1 hg (by omega) (fun h' u tk hk => fin (I.kept hk)) q3
      cases b1 with
      | lst k h l => exact go _ ru
      | of h => cases h with
        | non => cases ru; cases e; exact P.repr_of_none (fin (I.tok _))
        | bl b => cases ru; cases e; exact P.repr_of_bool (fin (I.tok _))
        | int i =>
          obtain ⟨t, rfl⟩ := ru
          cases e
          exact P.repr_of_int (by simpa [PyData.showable] using q1) (fin (I.tok _))
        | str x =>
          obtain ⟨t, rfl⟩ := ru
          cases e
          exact P.repr_of_str (fin (I.tok _)) (by have q4 := q3; simp only [PyData.shown] at q4; exact q4)
        | _ => exact go _ ru
end
end Sb
set_option linter.all false
set_option maxRecDepth 20000
set_option maxHeartbeats 1000000
set_option autoImplicit false
/-! A6: methods of built-in types, isinstance. -/
namespace Sb
open PySem PySem.Spec PyProof.Rows L2
def nmM : Mt → Str
  | .index => "index" | .count => "count" | .join => "join" | .split => "split" | .upper => "upper" | .replace => "replace" | .get => "get"
section
variable {X : Cx} {ct : CT}
/-- the receiver is of the built-in type T -/
inductive Recv (H : Hp) : V → String → Prop
  | str (z : Str) : Recv H (.str z) "str"
  | lst {p : Addr} {xs : List V} : H p = some (.lst xs) → Recv H (.ref p) "list"
  | tup {p : Addr} {o : Obj} {xs : List V} : H p = some (.frz o (.tup xs)) → PlainT o → Recv H (.ref p) "tuple"
theorem Recv.is {pins : List (Addr × Obj)} {σ : L2.St} {H : Hp} {s : Shared} {x : V} {v : Value} {T : String} (h : Recv H x T) (I : Inv X pins σ H s) (r : RelV x v) :
    s.TypeIs v T ∧ ∀ a, v = .ref a → ∃ ob, s.heap.get? a = some ob ∧ ob.dict = none := by
  cases h with
  | str z =>
    obtain ⟨t, rfl⟩ := r
    exact ⟨typeIs_str s z t, fun _ e => nomatch e⟩
  | lst h =>
    cases r
    obtain ⟨its, _, pl, _⟩ := I.list (.of h)
    refine ⟨pl.isList.typeIs, fun a e => ?_⟩
    cases e
    obtain ⟨o, n, e, c, hd, _⟩ := pl
    exact ⟨o, e, hd⟩
  | tup h pt =>
    cases r
    obtain ⟨e, _⟩ := I.hok _ _ h
    refine ⟨⟨_, e, pt.1⟩, fun a q => ?_⟩
    cases q
    exact ⟨_, e, pt.2⟩
theorem Recv.noTup {H : Hp} {p : Addr} {T : String} (h : Recv H (.ref p) T) (n : T ≠ "tuple") {o : Obj} {xs : List V} (e : H p = some (.frz o (.tup xs))) : False := by
  cases h with
  | lst h' => rw [e] at h'; cases h'
  | tup h' _ => exact n rfl
theorem Recv.noLst {H : Hp} {p : Addr} {T : String} (h : Recv H (.ref p) T) (n : T ≠ "list") {xs : List V} (e : H p = some (.lst xs)) : False := by
  cases h with
  | lst h' => exact n rfl
  | tup h' _ => rw [e] at h'; cases h'
inductive Mti : Mt → String → String → Prop
  | li : Mti .index "list" "list.index"
  | ti : Mti .index "tuple" "tuple.index"
  | lc : Mti .count "list" "list.count"
  | sj : Mti .join "str" "str.join"
  | ss : Mti .split "str" "str.split"
/-- the method m of the type T -/
structure MtOf (X : Cx) (ct : CT) (m : Mt) (T : String) (id : String) : Prop where
  mti : Mti m T id
  pa : PlainAttrs T
  slot : Slot T (nmM m) id
  ty : typeOf (.builtin id) = pure (.type "method_descriptor")
theorem pe_mt {m : Mt} {o e : Expr} {es : List Expr} {to : TE} {t : TA} {apos cpos : Pos} {r : V → List V → Hp → VK → Prop}
    (hr : ∀ T id, MtOf X ct m T id → MtR X id (fun x xs H Q => Recv H x T ∧ r x xs H Q)) (ho : PE X o to) (ha : PA X (e :: es) t)
    (hbase : attributeBase o (nmM m) X.env (eval o X.env) = eval o X.env)
    (hfew : ((backTo cpos (starEach (e :: es) X.env)).all (fun x => !x.1) && (backToKw cpos (keywordEach [] X.env)).all (fun x => x.1.isSome)
      && decide ((e :: es).length + ([] : List Keyword).length + (if ([] : List Keyword).isEmpty then 0 else 1) < 30)) = true)
    (hline : (apos.endLine == cpos.line) = true) (hs : starEach (e :: es) X.env = (false, eval e X.env) :: starEach es X.env) (hplain : (backTo cpos (starEach es X.env)).any (·.1) = false) :
    PE X (.Call (.Attribute o (nmM m) apos) (e :: es) [] cpos) (fun σ H Q => to σ H fun x H1 => ∃ T id, MtOf X ct m T id ∧ Recv H1 x T ∧ t σ H1 fun xs H2 => Recv H2 x T ∧ r x xs H2 Q) := by
  refine ⟨fun pins s σ H Q I h => ?_⟩
  refine wpAny_Call_method_late hbase hfew hline rfl (thn (ho.run pins s σ H _ I h) fun v s1 ⟨x, H1, I1, r1, T, id, mo, rc, q1⟩ => ?_)
  obtain ⟨h1, h2⟩ := rc.is I1 r1
  refine ⟨T, id, mo.pa, mo.slot, mo.ty, h1, h2, ?_⟩
  have hA := ha.run cpos pins s1 σ H1 _ I1 q1
  rw [hs] at hA ⊢
  refine Calls.callWith_builtin (by show (false || (backTo cpos (starEach es X.env)).any (·.1)) = false; rw [hplain] <;> rfl) (Calls.evalArgs_plain ?_)
  exact thn hA fun us s2 ⟨vs, H2, I2, r2, q2⟩ => hr T id mo pins s2 σ H2 x vs v us Q I2 r1 r2 q2
theorem onat_idx {x : D} {ys : List D} {n : Nat} (h : idxF x ys = some n) : flatD x = true ∧ ys.all flatD = true ∧ ys.findIdx? (fun y => eqF y x) = some n := by
  unfold idxF at h
  by_cases hh : (flatD x && ys.all flatD) = true
  · rw [if_pos hh, ] at h
    rw [Bool.and_eq_true] at hh
    exact ⟨hh.1, hh.2, h⟩
  · rw [if_neg hh] at h; cases h
/-- the same place by values -/
theorem idx_vals {K : PySem.W.Frag} {U : Um} {H : Hp} {vs : List V} {ds : List D} {x : V} {d : D} {n : Nat} (l : DnL K ct U H vs ds) (hx : Bn K ct U H x d) (h : idxF d ds = some n) :
    flatV x = true ∧ vs.all flatV = true ∧ ∃ z, vs[n]? = some z ∧ eqV z x = true ∧ ∀ (m : Nat) (z' : V), m < n → vs[m]? = some z' → eqV z' x = false := by
  obtain ⟨f1, f2, h⟩ := onat_idx h
  obtain ⟨g1, g2⟩ := hx.flat f1
  obtain ⟨g3, _⟩ := l.flat f2
  rw [List.findIdx?_eq_some_iff_getElem] at h
  obtain ⟨hn, he, hno⟩ := h
  obtain ⟨z, hz, dz⟩ := l.get n (List.getElem?_eq_getElem hn)
  have fl : ∀ m (hm : m < ds.length), flatD ds[m] = true := fun m hm => List.all_eq_true.mp f2 _ (List.getElem_mem hm)
  refine ⟨g1, g3, z, hz, ?_, fun m z' hm hz' => ?_⟩
  · rw [((Bn.of dz).flat (fl n hn)).2 d x hx f1]; exact he
  · obtain ⟨dm, hd, dz'⟩ := l.getV m hz'
    have hml : m < ds.length := by omega
    rw [List.getElem?_eq_getElem hml] at hd
    cases hd
    rw [((Bn.of dz').flat (fl m hml)).2 d x hx f1]
    have := hno m hm
    simpa using this
theorem idx_or {x : D} {ys : List D} {n : Nat} (h : idxD x ys = some n) : idxF x ys = some n ∨ ∃ d ds, x.py = some d ∧ D.pys ys = some ds ∧ SeqAt.shaped d = true ∧ SeqAt.shaped (.list ds) = true ∧ ds.findIdx? (fun z => PyData.eqv z d) = some n := by
  unfold idxD at h
  unfold idxF
  by_cases hh : (flatD x && ys.all flatD) = true
  · rw [if_pos hh] at h ⊢
    exact .inl h
  · rw [if_neg hh] at h
    split at h
    · rename_i p q e1 e2
      by_cases h2 : (SeqAt.shaped p && SeqAt.shaped (.list q)) = true
      · rw [if_pos h2] at h
        rw [Bool.and_eq_true] at h2
        exact .inr ⟨p, q, e1, e2, h2.1, h2.2, h⟩
      · rw [if_neg h2] at h; cases h
    · cases h
theorem mr_list_index (hu : X.A.units + 65 < cLine) : MtR X "list.index" (fun x xs H Q => Recv H x "list" ∧ rMt X.K ct .index x xs H Q) := by
  intro pins s σ H x xs v us Qv I rx rxs ⟨rc, U, S, a, ds, Q, ok, ha, hb, hq, post⟩
  cases a with
  | lst es => match ds, hb, hq with
    | [d], hb, hq =>
      obtain ⟨y, rfl, b1⟩ := hb.one
      obtain ⟨p, ys, rfl, h, l⟩ := ha.seqL
      obtain ⟨n, e, hq⟩ := onat_ok hq
      rcases idx_or e with e | ⟨d', es', p1, p2, s1, s2, e⟩
      · obtain ⟨f1, f2, z, hz, hzj, hno⟩ := idx_vals l b1 e
        exact mt_index pins s σ H _ _ v us Qv I rx rxs ⟨p, ys, y, n, z, rfl, rfl, .of h, f1, f2, hz, hzj, hno, post _ _ _ _ Kp.refl ok (Fr_.i rfl) hq⟩
      · rw [List.findIdx?_eq_some_iff_getElem] at e
        obtain ⟨hn, he, hno⟩ := e
        exact mt_indexD hu pins s σ H _ _ v us Qv I rx rxs ⟨p, y, d', es', n, _, rfl, rfl, .lst (.of h) (l.dp p2 (by have := shaped_nd s2; rwa [PyData.hasDict] at this)), b1.dp p1 (shaped_nd s1), s2, s1, List.getElem?_eq_getElem hn, he, fun m z' hm hz' => by
          obtain ⟨h1, h2⟩ := List.getElem?_eq_some_iff.mp hz'
          have := hno m hm
          rw [h2] at this
          simpa using this, post _ _ _ _ Kp.refl ok (Fr_.i rfl) hq⟩
  | tup es => match ds, hb, hq with
    | [d], hb, hq =>
      obtain ⟨p, o, ys, rfl, k, h, pt, l⟩ := ha.seqT
      exact (rc.noTup (by decide) h).elim
  | _ => cases ds <;> exact hq.elim
theorem mr_tup_index : MtR X "tuple.index" (fun x xs H Q => Recv H x "tuple" ∧ rMt X.K ct .index x xs H Q) := by
  intro pins s σ H x xs v us Qv I rx rxs ⟨rc, U, S, a, ds, Q, ok, ha, hb, hq, post⟩
  cases a with
  | lst es => match ds, hb, hq with
    | [d], hb, hq =>
      obtain ⟨p, ys, rfl, h, l⟩ := ha.seqL
      exact (rc.noLst (by decide) h).elim
  | tup es => match ds, hb, hq with
    | [d], hb, hq =>
      obtain ⟨y, rfl, b1⟩ := hb.one
      obtain ⟨p, ob, ys, rfl, k, h, pt, l⟩ := ha.seqT
      obtain ⟨n, e, hq⟩ := onat_ok hq
      obtain ⟨f1, f2, z, hz, hzj, hno⟩ := idx_vals l b1 e
      cases rx
      obtain ⟨u, rfl, ru⟩ := vals1 rxs
      obtain ⟨its, rv, pl, hlen⟩ := I.tuple (.inl (.inr ⟨_, h⟩))
      obtain ⟨⟨cls, dd, dt, sls⟩, ho, hc, n', hd⟩ := pl
      simp only at hc hd
      subst hc
      subst hd
      obtain ⟨w, hw, rw'⟩ := rv.get hz
      obtain ⟨hjl, hje⟩ := List.getElem?_eq_some_iff.mp hw
      have hj : n < its.toArray.size := by simpa using hjl
      have hvl := rv.length
      refine call_meets PySem.F.slot_tuple_index ⟨_, ho, rfl⟩ PySem.F.entry_tuple_index (PySem.F.args_tuple_index_2 _ _) (TI.tuple_indexAt p its.toArray n' dd sls u (eqU y) n hj ?_ ?_)
        ⟨ho, fun u' hu' => mem_eqAt ru f1 rv f2 u' (by simpa using hu'), ⟨.int (n : Nat), H, I.tok _, ⟨_, rfl⟩, post _ _ _ _ Kp.refl ok (Fr_.i rfl) hq⟩⟩
      · have e1 : its.toArray[n] = w := by simpa using hje
        rw [e1, eqU_of rw' (flat_at f2 hz)]
        exact hzj
      · intro m hm hmj
        have hml : m < its.length := by simpa using hm
        have hmy : m < ys.length := by omega
        have hy' : ys[m]? = some ys[m] := List.getElem?_eq_getElem hmy
        obtain ⟨u2, hu2, ru2⟩ := rv.get hy'
        obtain ⟨_, hme⟩ := List.getElem?_eq_some_iff.mp hu2
        have e1 : its.toArray[m] = u2 := by simpa using hme
        rw [e1, eqU_of ru2 (flat_at f2 hy')]
        exact hno m _ hmj hy'
  | _ => cases ds <;> exact hq.elim
theorem countP_eqU {y : V} : ∀ {xs : List V} {us : List Value}, Vals xs us → xs.all flatV = true → us.countP (eqU y) = xs.countP fun z => eqV z y
  | _, _, .nil, _ => rfl
  | x :: xs, u :: us, .cons r t, f => by
    rw [List.all_cons, Bool.and_eq_true] at f
    rw [List.countP_cons, List.countP_cons, eqU_of r f.1, countP_eqU t f.2]
theorem countP_flat {K : PySem.W.Frag} {U : Um} {H : Hp} {y : V} {e : D} (hy : Bn K ct U H y e) (fe : flatD e = true) : ∀ {vs : List V} {ds : List D}, DnL K ct U H vs ds → ds.all flatD = true → vs.countP (fun z => eqV z y) = ds.countP fun z => eqF z e
  | _, _, .nil, _ => rfl
  | _, _, .cons h t, f => by
    rw [List.all_cons, Bool.and_eq_true] at f
    rw [List.countP_cons, List.countP_cons, ((Bn.of h).flat f.1).2 e y hy fe, countP_flat hy fe t f.2]
theorem mr_list_count : MtR X "list.count" (fun x xs H Q => Recv H x "list" ∧ rMt X.K ct .count x xs H Q) := by
  intro pins s σ H x xs v us Qv I rx rxs ⟨rc, U, S, a, ds, Q, ok, ha, hb, hq, post⟩
  cases a with
  | lst es => match ds, hb, hq with
    | [d], hb, hq =>
      obtain ⟨y, rfl, b1⟩ := hb.one
      obtain ⟨p, ys, rfl, h, l⟩ := ha.seqL
      obtain ⟨n, e, hq⟩ := onat_ok hq
      unfold countD at e
      by_cases hh : (flatD d && es.all flatD) = true
      · rw [if_pos hh] at e
        rw [Bool.and_eq_true] at hh
        cases e
        obtain ⟨f1, _⟩ := b1.flat hh.1
        obtain ⟨f2, _⟩ := l.flat hh.2
        cases rx
        obtain ⟨u, rfl, ru⟩ := vals1 rxs
        obtain ⟨its, rv, ⟨⟨cls, dd, data, sls⟩, n, ho, hc, hdn, hd⟩, hlen⟩ := I.list (.of h)
        simp only at hc hd
        subst hc hd
        refine call_meets PySem.F.slot_list_count ⟨_, ho, rfl⟩ PySem.F.entry_list_count (PySem.F.args_list_count_2 _ _)
          (SeqAt.list_countAt p its.toArray n dd sls u (eqU y)) ⟨ho, fun u' hu' => mem_eqAt ru f1 rv f2 u' (by simpa using hu'), ?_⟩
        have ec : its.toArray.toList.countP (eqU y) = es.countP fun z => eqF z d := by
          rw [show its.toArray.toList = its from rfl, countP_eqU rv f2, countP_flat b1 hh.1 l hh.2]
        exact ⟨.int ((es.countP fun z => eqF z d : Nat) : Int), H, I.tok _, ⟨s.toks, by rw [ec]⟩, post _ _ _ _ Kp.refl ok (Fr_.i rfl) hq⟩
      · rw [if_neg hh] at e; cases e
  | _ => cases ds <;> exact hq.elim
end
end Sb
set_option linter.all false
set_option maxRecDepth 20000
set_option maxHeartbeats 1000000
set_option autoImplicit false
/-! A7: what an expression of the program does, by its meaning. -/
namespace Sb
open PySem PySem.Spec PyProof.Rows L2
inductive Mo where
  | fr | dn | bn | ow | an
  deriving DecidableEq
section
variable (K : PySem.W.Frag) (ct : CT)
structure FrS (H : Hp) (U' : Um) (S' : Store) (H' : Hp) (v : V) (d : D) : Prop where
  dn : Dn K ct U' H' v d
  lst : ∀ ds, d = .lst ds → ∃ p xs, v = .ref p ∧ H p = none ∧ H' p = some (.lst xs) ∧ U' p = .sh ∧ DnL K ct (U'.set p .ow) H' xs ds ∧ Ok K ct (U'.set p .ow) S' H'
inductive OwV (H : Hp) (U' : Um) (H' : Hp) : V → D → Prop
  | of {v : V} {d : D} : Dn K ct U' H' v d → OwV H U' H' v d
  | own {p : Addr} {xs : List V} {ds : List D} : H p = none → U' p = .ow → H' p = some (.lst xs) → DnL K ct U' H' xs ds → OwV H U' H' (.ref p) (.own ds)
inductive AnV (U' : Um) (H' : Hp) : V → D → Prop
  | of {v : V} {d : D} : Dn K ct U' H' v d → AnV U' H' v d
  | bor {p : Addr} {xs : List V} {ds : List D} : U' p = .ow → H' p = some (.lst xs) → DnL K ct U' H' xs ds → AnV U' H' (.ref p) (.bor ds)
/-- a value in a slot -/
inductive Vn (U' : Um) (H' : Hp) : V → D → Prop
  | of {v : V} {d : D} : Dn K ct U' H' v d → Vn U' H' v d
  | bor {p : Addr} {xs : List V} {ds : List D} : U' p = .ow → H' p = some (.lst xs) → DnL K ct U' H' xs ds → Vn U' H' (.ref p) (.bor ds)
  | own {p : Addr} {xs : List V} {ds : List D} : U' p = .ow → H' p = some (.lst xs) → DnL K ct U' H' xs ds → Vn U' H' (.ref p) (.own ds)
  | clo {p c' : Addr} {q : Str} : ct.cl = some (p, c', q) → U' c' = .sh → H' c' = some (LamX.CodeO c' q) → Vn U' H' (.ref p) (.clo 0)
def Md (m : Mo) (H : Hp) (U' : Um) (S' : Store) (H' : Hp) (v : V) (d : D) : Prop :=
  match m with
  | .fr => FrS K ct H U' S' H' v d
  | .dn => Dn K ct U' H' v d
  | .bn => Bn K ct U' H' v d
  | .ow => OwV K ct H U' H' v d
  | .an => AnV K ct U' H' v d
/-- the frame's slots -/
structure Sl (U : Um) (H : Hp) (σ : L2.St) (ρ : Env) : Prop where
  len : σ.length = ρ.length
  get : ∀ (i : Nat) (d : D), ρ[i]? = some (some d) → ∃ v, σ[i]? = some (some v) ∧ Vn K ct U H v d
/-- an exception in flight -/
inductive Xn (U : Um) (H : Hp) : Value → Option Addr → D → Prop
  | mk {c : Nat} {dx : Addr} {xs : List V} {ds : List D} : U dx = .sh → H dx = some (.xd ((ct.fl c).zip xs)) → xs.length = (ct.fl c).length → DnL K ct U H xs ds → Xn U H (.ref (ct.ad c)) (some dx) (.exc c ds)
def Po (m : Mo) (U : Um) (H : Hp) (Q : QD) (Qv : VK) : Prop := ∀ v d U' S' H', Stp U H U' H' → Ok K ct U' S' H' → Md K ct m H U' S' H' v d → Q d S' → Qv v H'
def Px (W : WX) (U : Um) (H : Hp) (E : QD) (σ : L2.St) : Prop := ∀ cls da x U' S' H', Stp U H U' H' → Ok K ct U' S' H' → Xn K ct U' H' cls da x → E x S' → W cls da σ H'
def TE_ (W : WX) (m : Mo) (r : Env → Store → QD → QD → Prop) : TE := fun σ H Qv => ∃ U S ρ Q E, Ok K ct U S H ∧ Sl K ct U H σ ρ ∧ r ρ S Q E ∧ Po K ct m U H Q Qv ∧ Px K ct W U H E σ
def TT_ (W : WX) (r : Env → Store → QB → QD → Prop) : TT := fun σ H Qv => ∃ U S ρ Q E, Ok K ct U S H ∧ Sl K ct U H σ ρ ∧ r ρ S Q E ∧ (∀ b U' S' H', Stp U H U' H' → Ok K ct U' S' H' → Q b S' → Qv b H') ∧ Px K ct W U H E σ
/-- several values -/
inductive MdL (m : Mo) (H : Hp) (U' : Um) (S' : Store) (H' : Hp) : List V → List D → Prop
  | nil : MdL m H U' S' H' [] []
  | cons {v : V} {d : D} {vs : List V} {ds : List D} : Md K ct m H U' S' H' v d → (∀ e, d = .own e → ∀ (j : Nat) (e' : List D), ds[j]? = some (.own e') → vs[j]? ≠ some v) → MdL m H U' S' H' vs ds → MdL m H U' S' H' (v :: vs) (d :: ds)
def TA_ (W : WX) (m : Mo) (n : Nat) (r : Env → Store → QL → QD → Prop) : TA := fun σ H Qv => ∃ U S ρ Q E, Ok K ct U S H ∧ Sl K ct U H σ ρ ∧ r ρ S Q E ∧ (∀ vs ds U' S' H', vs.length = n → Stp U H U' H' → Ok K ct U' S' H' → MdL K ct m H U' S' H' vs ds → Q ds S' → Qv vs H') ∧ Px K ct W U H E σ
def TO_ (W : WX) (r : Env → Store → (Option Int → Store → Prop) → QD → Prop) : L2.TO := fun σ H Qv => ∃ U S ρ Q E, Ok K ct U S H ∧ Sl K ct U H σ ρ ∧ r ρ S Q E ∧ (∀ o U' S' H', Stp U H U' H' → Ok K ct U' S' H' → Q o S' → Qv o H') ∧ Px K ct W U H E σ
end
section
variable {K : PySem.W.Frag} {ct : CT}
theorem none_back {S1 : Store} {U U1 : Um} {H H1 : Hp} (s : Stp U H U1 H1) (o1 : Ok K ct U1 S1 H1) {p : Addr} (h : H1 p = none) : H p = none := by
  cases e : H p with
  | none => rfl
  | some o => exact absurd h (s.dom o1 (by rw [e]; simp))
theorem Vn.stp {S : Store} {U U' : Um} {H H' : Hp} {v : V} {d : D} (h : Vn K ct U H v d) (o : Ok K ct U S H) (s : Stp U H U' H') : Vn K ct U' H' v d := by
  cases h with
  | of h => exact .of (h.stp o s)
  | bor k r l => exact .bor (by rw [s.un _ (by rw [r]; simp), k]) (s.st _ _ r (by rw [k]; decide)) (l.stp o s)
  | own k r l => exact .own (by rw [s.un _ (by rw [r]; simp), k]) (s.st _ _ r (by rw [k]; decide)) (l.stp o s)
  | clo e k h => exact .clo e (by rw [s.un _ (by rw [h]; simp), k]) (s.st _ _ h (by rw [k]; decide))
theorem Sl.stp {S : Store} {U U' : Um} {H H' : Hp} {σ : L2.St} {ρ : Env} (h : Sl K ct U H σ ρ) (o : Ok K ct U S H) (s : Stp U H U' H') : Sl K ct U' H' σ ρ :=
  ⟨h.len, fun i d e => by
    obtain ⟨v, h1, h2⟩ := h.get i d e
    exact ⟨v, h1, h2.stp o s⟩⟩
theorem Px.stp {S1 : Store} {W : WX} {U U1 : Um} {H H1 : Hp} {E : QD} {σ : L2.St} (h : Px K ct W U H E σ) (s : Stp U H U1 H1) (o1 : Ok K ct U1 S1 H1) : Px K ct W U1 H1 E σ :=
  fun cls da x U' S' H' s' o' => h cls da x U' S' H' (s.trans o1 s') o'
/-- from later -/
theorem Md.back {m : Mo} {S1 S' : Store} {U U1 U' : Um} {H H1 H' : Hp} {v : V} {d : D} (h : Md K ct m H1 U' S' H' v d) (s : Stp U H U1 H1) (o1 : Ok K ct U1 S1 H1) : Md K ct m H U' S' H' v d := by
  cases m with
  | fr => exact ⟨h.dn, fun ds e => by
      obtain ⟨p, xs, h1, h2, h3⟩ := h.lst ds e
      exact ⟨p, xs, h1, none_back s o1 h2, h3⟩⟩
  | ow =>
    cases h with
    | of h => exact .of h
    | own h1 h2 h3 h4 => exact .own (none_back s o1 h1) h2 h3 h4
  | _ => exact h
theorem Po.stp {m : Mo} {S1 : Store} {U U1 : Um} {H H1 : Hp} {Q : QD} {Qv : VK} (h : Po K ct m U H Q Qv) (s : Stp U H U1 H1) (o1 : Ok K ct U1 S1 H1) : Po K ct m U1 H1 Q Qv :=
  fun v d U' S' H' s' o' md q => h v d U' S' H' (s.trans o1 s') o' (md.back s o1) q
/-- the op's result, by the mode -/
theorem Ok.own {kd : Kd} {S : Store} {U U' : Um} {H H' : Hp} {p : Addr} {u : HO} (hk : kd ≠ .ce) (o : Ok K ct U S H) (k : Kp U H U' H') (o' : Ok K ct U' S H') (hp : H p = none) (hp' : H' p = some u) : Ok K ct (U'.set p kd) S H' := by
  have st : StW U H (U'.set p kd) H' := fun x u hx kx => ⟨k.st x u hx, by
    rw [Um.set_ne (fun z => by rw [z, hp] at hx; cases hx), k.u]; exact kx⟩
  have ne : ∀ x, U x = .ce → x ≠ p := fun x kx z => o.there x (by rw [kx]; decide) (by rw [z]; exact hp)
  have kc : ∀ x, U x = .ce → U'.set p kd x = .ce := fun x kx => by
    rw [Um.set_ne (ne x kx), k.u]; exact kx
  refine ⟨fun a => ?_, fun a c e => (o.cell a c e).st (fun u e => k.st a u e) st kc, fun a ha => ?_, fun q hq => (o.tab q hq).st (fun u e => k.st q.1 u e) st⟩
  · by_cases z : a = p
    · rw [z, Um.set_same]
      have : S p = none := by
        cases q : S p with
        | none => rfl
        | some c => exact absurd hp (o.there p (by rw [(o.ce p).mpr (by rw [q]; simp)]; decide))
      rw [this]; simp [hk, o.newT hp]
    · rw [Um.set_ne z]; exact o'.ce a
  · by_cases z : a = p
    · rw [z, hp']; simp
    · rw [Um.set_ne z] at ha; exact o'.there a ha
theorem FrS.of {S : Store} {U U' : Um} {H H' : Hp} {v : V} {d : D} (o : Ok K ct U S H) (s : Kp U H U' H') (o' : Ok K ct U' S H') (f : Fr_ K ct H U' H' v d) : FrS K ct H U' S H' v d :=
  ⟨f.dn, fun ds e => by
    obtain ⟨p, xs, h1, h2, h3, h4, h5⟩ := f.lst ds e
    exact ⟨p, xs, h1, h2, h3, h4, h5, o.own (by decide) s o' h2 h3⟩⟩
theorem FrS.flat {S' : Store} {U' : Um} {H H' : Hp} {v : V} {d : D} (h : Dn K ct U' H' v d) (n : ∀ ds, d ≠ .lst ds) : FrS K ct H U' S' H' v d := ⟨h, fun ds e => absurd e (n ds)⟩
theorem Md.ofDn {m : Mo} {S' : Store} {U' : Um} {H H' : Hp} {v : V} {d : D} (h : Dn K ct U' H' v d) (n : m ≠ .fr) : Md K ct m H U' S' H' v d := by
  cases m with
  | fr => exact absurd rfl n
  | dn => exact h
  | bn => exact .of h
  | ow => exact .of h
  | an => exact .of h
theorem Md.ofFr {m : Mo} {S' : Store} {U' : Um} {H H' : Hp} {v : V} {d : D} (h : FrS K ct H U' S' H' v d) : Md K ct m H U' S' H' v d := by
  cases m with
  | fr => exact h
  | dn => exact h.dn
  | bn => exact .of h.dn
  | ow => exact .of h.dn
  | an => exact .of h.dn
theorem Md.flat {m : Mo} {S' : Store} {U' : Um} {H H' : Hp} {v : V} {d : D} (h : Dn K ct U' H' v d) (n : ∀ ds, d ≠ .lst ds) : Md K ct m H U' S' H' v d := .ofFr (.flat h n)
theorem Vn.dn {U' : Um} {H' : Hp} {v : V} {d : D} (h : Vn K ct U' H' v d) (n : ∀ xs, d ≠ .own xs) (n2 : ∀ xs, d ≠ .bor xs) (n3 : ∀ j, d ≠ .clo j) : Dn K ct U' H' v d := by
  cases h with
  | of h => exact h
  | bor _ _ _ => exact absurd rfl (n2 _)
  | own _ _ _ => exact absurd rfl (n _)
  | clo _ _ _ => exact absurd rfl (n3 _)
theorem Po.fin {m : Mo} {S : Store} {U : Um} {H : Hp} {Q : QD} {Qv : VK} (po : Po K ct m U H Q Qv) (o : Ok K ct U S H) : PoF K ct U S H (fun d => Q d S) Qv :=
  fun v d U' H' k o' f q => po v d U' S H' k.stp o' (.ofFr (.of o k o' f)) q
theorem Po.finD {m : Mo} (n : m ≠ .fr) {S : Store} {U : Um} {H : Hp} {Q : QD} {Qv : VK} (po : Po K ct m U H Q Qv) (o : Ok K ct U S H) : PoD K ct U S H (fun d => Q d S) Qv :=
  fun v d U' H' k o' f q => po v d U' S H' k.stp o' (.ofDn f n) q
theorem Md.bn {m : Mo} {S' : Store} {U' : Um} {H H' : Hp} {v : V} {d : D} (h : Md K ct m H U' S' H' v d) (n : m = .fr ∨ m = .dn ∨ m = .bn) : Bn K ct U' H' v d := by
  rcases n with rfl | rfl | rfl
  · exact .of h.dn
  · exact .of h
  · exact h
end
/-! ### rules -/
theorem PE.imp {X : Cx} {e : Expr} {t t' : TE} (h : PE X e t) (i : ∀ σ H Q, t' σ H Q → t σ H Q) : PE X e t' := ⟨fun pins s σ H Q I q => h.run pins s σ H Q I (i σ H Q q)⟩
theorem PT.imp {X : Cx} {e : Expr} {t t' : TT} (h : PT X e t) (i : ∀ σ H Q, t' σ H Q → t σ H Q) : PT X e t' := ⟨fun pins s σ H Q I q => h.run pins s σ H Q I (i σ H Q q)⟩
theorem PA.imp {X : Cx} {e : List Expr} {t t' : TA} (h : PA X e t) (i : ∀ σ H Q, t' σ H Q → t σ H Q) : PA X e t' := ⟨fun pos pins s σ H Q I q => h.run pos pins s σ H Q I (i σ H Q q)⟩
theorem PO.imp {X : Cx} {e : Option Expr} {t t' : L2.TO} (h : PO X e t) (i : ∀ σ H Q, t' σ H Q → t σ H Q) : PO X e t' := ⟨fun pins s σ H Q I q => h.run pins s σ H Q I (i σ H Q q)⟩
section
variable {X : Cx} {ct : CT} {W : WX} {m : Mo} {P : Prog} {F : Fsem} {Γ : List Clo}
theorem x_var {i : Nat} {n : Str} {pos : Pos} (hm : m ≠ .fr) (hN : X.N[i]? = some n) (hv : Vis X.env.scope n) (hd : (n == ("__debug__" : Str)) = false) (hcd : (n == ("__classdict__" : Str)) = false) :
    PE X (.Name n pos) (TE_ X.K ct W m (ev P F Γ (.var i)).e) :=
  PE.imp (pe_var hN hv hd hcd) fun σ H Qv ⟨U, S, ρ, Q, E, ok, sl, r, po, px⟩ => by
    change getV ρ i (fun d => Q d S) at r
    unfold getV at r
    split at r
    · exact r.elim
    · exact r.elim
    · exact r.elim
    · next d n1 n2 n3 e =>
      obtain ⟨v, h1, h2⟩ := sl.get i d e
      refine ⟨v, h1, po v d U S H .refl ok (.ofDn (h2.dn (fun xs z => ?_) (fun xs z => ?_) (fun j z => ?_)) hm) r⟩
      · exact n1 xs z
      · exact n2 xs z
      · exact n3 j z
    · exact r.elim
theorem x_bvar {i : Nat} {n : Str} {pos : Pos} (hN : X.N[i]? = some n) (hv : Vis X.env.scope n) (hd : (n == ("__debug__" : Str)) = false) (hcd : (n == ("__classdict__" : Str)) = false) :
    PE X (.Name n pos) (TE_ X.K ct W .bn (ev P F Γ (.bvar i)).e) :=
  PE.imp (pe_var hN hv hd hcd) fun σ H Qv ⟨U, S, ρ, Q, E, ok, sl, r, po, px⟩ => by
    change getB ρ i (fun d => Q d S) at r
    unfold getB at r
    split at r
    · next xs e =>
      obtain ⟨v, h1, h2⟩ := sl.get i _ e
      refine ⟨v, h1, po v _ U S H .refl ok ?_ r⟩
      cases h2 with
      | of h => nomatch h
      | own a b c => exact .lst a b c
    · next xs e =>
      obtain ⟨v, h1, h2⟩ := sl.get i _ e
      refine ⟨v, h1, po v _ U S H .refl ok ?_ r⟩
      cases h2 with
      | of h => nomatch h
      | bor a b c => exact .lst a b c
    · exact r.elim
    · next d n1 n2 n3 e =>
      obtain ⟨v, h1, h2⟩ := sl.get i d e
      refine ⟨v, h1, po v d U S H .refl ok (.of (h2.dn (fun xs z => ?_) (fun xs z => ?_) (fun j z => ?_))) r⟩
      · exact n1 xs z
      · exact n2 xs z
      · exact n3 j z
    · exact r.elim
theorem x_lend {i : Nat} {n : Str} {pos : Pos} (hN : X.N[i]? = some n) (hv : Vis X.env.scope n) (hd : (n == ("__debug__" : Str)) = false) (hcd : (n == ("__classdict__" : Str)) = false) :
    PE X (.Name n pos) (TE_ X.K ct W .an (ev P F Γ (.lend i)).e) :=
  PE.imp (pe_var hN hv hd hcd) fun σ H Qv ⟨U, S, ρ, Q, E, ok, sl, r, po, px⟩ => by
    change getL ρ i (fun d => Q d S) at r
    unfold getL at r
    split at r
    · next xs e =>
      obtain ⟨v, h1, h2⟩ := sl.get i _ e
      refine ⟨v, h1, po v _ U S H .refl ok ?_ r⟩
      cases h2 with
      | of h => nomatch h
      | own a b c => exact .bor a b c
    · exact r.elim
    · next d n1 n2 e =>
      obtain ⟨v, h1, h2⟩ := sl.get i d e
      refine ⟨v, h1, po v d U S H .refl ok ?_ r⟩
      cases h2 with
      | of h => exact .of h
      | own a b c => exact (n1 _ rfl).elim
      | bor a b c => exact .bor a b c
      | clo a b c => exact (n2 _ rfl).elim
    · exact r.elim
theorem x_int {i : Int} {j pos} : PE X (.Constant (.int i) j pos) (TE_ X.K ct W m (ev P F Γ (.cst (.int i))).e) :=
  PE.imp pe_int fun σ H Qv ⟨U, S, ρ, Q, E, ok, sl, r, po, px⟩ => po _ _ U S H .refl ok (.flat (.int i) fun _ e => nomatch e) r
theorem x_bl {i : Bool} {j pos} : PE X (.Constant (.bool i) j pos) (TE_ X.K ct W m (ev P F Γ (.cst (.bool i))).e) :=
  PE.imp pe_bl fun σ H Qv ⟨U, S, ρ, Q, E, ok, sl, r, po, px⟩ => po _ _ U S H .refl ok (.flat (.bl i) fun _ e => nomatch e) r
theorem x_str {i : Str} {j pos} : PE X (.Constant (.str i) j pos) (TE_ X.K ct W m (ev P F Γ (.cst (.str i))).e) :=
  PE.imp pe_str fun σ H Qv ⟨U, S, ρ, Q, E, ok, sl, r, po, px⟩ => po _ _ U S H .refl ok (.flat (.str i) fun _ e => nomatch e) r
theorem x_non {j pos} : PE X (.Constant .none j pos) (TE_ X.K ct W m (ev P F Γ (.cst .none)).e) :=
  PE.imp pe_non fun σ H Qv ⟨U, S, ρ, Q, E, ok, sl, r, po, px⟩ => po _ _ U S H .refl ok (.flat .non fun _ e => nomatch e) r
theorem x_glob {g : Nat} {n : Str} {pos : Pos} {v : V} {u : Value} {d : D} (hc : P.consts[g]? = some d) (hg : Gl X n) (hm : X.mg n = some u) (r : RelV v u) (hd : (n == ("__debug__" : Str)) = false) (dv : ∀ U H, Dn X.K ct U H v d) (nl : ∀ ds, d ≠ .lst ds) :
    PE X (.Name n pos) (TE_ X.K ct W m (ev P F Γ (.glob g)).e) :=
  PE.imp (pe_glob hg hm r hd) fun σ H Qv ⟨U, S, ρ, Q, E, ok, sl, r, po, px⟩ => by
    change (match P.consts[g]? with | some d => Q d S | none => False) at r
    rw [hc] at r
    exact po _ _ U S H .refl ok (.flat (dv U H) nl) r
section
variable {a b c : Expr} {xa xb xc : Ex} {pos : Pos}
/-- one after another -/
theorem te_two {ra rb : Env → Store → QD → QD → Prop} {ma mb : Mo} {σ : L2.St} {H : Hp} {U : Um} {S : Store} {ρ : Env} {Q : D → D → Store → Prop} {E : QD} {Qv : V → V → Hp → Prop}
    (ok : Ok X.K ct U S H) (sl : Sl X.K ct U H σ ρ) (px : Px X.K ct W U H E σ) (r : ra ρ S (fun x S => rb ρ S (fun y S => Q x y S) E) E)
    (po : ∀ v x U1 S1 H1 w y U2 S2 H2, Stp U H U1 H1 → Ok X.K ct U1 S1 H1 → Md X.K ct ma H U1 S1 H1 v x → Stp U1 H1 U2 H2 → Ok X.K ct U2 S2 H2 → Md X.K ct mb H1 U2 S2 H2 w y → Q x y S2 → Qv v w H2) :
    TE_ X.K ct W ma ra σ H fun v H1 => TE_ X.K ct W mb rb σ H1 fun w H2 => Qv v w H2 :=
  ⟨U, S, ρ, _, E, ok, sl, r, fun v d U1 S1 H1 s1 o1 m1 q1 => ⟨U1, S1, ρ, _, E, o1, sl.stp ok s1, q1, fun w e U2 S2 H2 s2 o2 m2 q2 => po v d U1 S1 H1 w e U2 S2 H2 s1 o1 m1 s2 o2 m2 q2, px.stp s1 o1⟩, px⟩
theorem x_bin {o : Bo} (ha : PE X a (TE_ X.K ct W .bn (ev P F Γ xa).e)) (hb : PE X b (TE_ X.K ct W .bn (ev P F Γ xb).e)) : PE X (.BinOp a (opB o) b pos) (TE_ X.K ct W m (ev P F Γ (.bin o xa xb)).e) :=
  PE.imp (pe_op (ob_all o) ha hb) fun σ H Qv ⟨U, S, ρ, Q, E, ok, sl, r, po, px⟩ =>
    te_two ok sl px r fun v x U1 S1 H1 w y U2 S2 H2 s1 o1 m1 s2 o2 m2 q => ⟨U2, S2, x, y, _, o2, m1.stp o1 s2, m2, q, (po.stp (s1.trans o1 s2) o2).fin o2⟩
theorem x_neg (ha : PE X a (TE_ X.K ct W .dn (ev P F Γ xa).e)) : PE X (.UnaryOp .USub a pos) (TE_ X.K ct W m (ev P F Γ (.neg xa)).e) :=
  PE.imp (pe_un un_neg ha) fun σ H Qv ⟨U, S, ρ, Q, E, ok, sl, r, po, px⟩ =>
    ⟨U, S, ρ, _, E, ok, sl, r, fun v d U1 S1 H1 s1 o1 m1 q1 => by
      cases d with
      | int k =>
        cases m1
        exact ⟨k, rfl, po _ _ U1 S1 H1 s1 o1 (.flat (.int _) fun _ e => nomatch e) q1⟩
      | _ => exact q1.elim, px⟩
theorem x_not (ha : PE X a (TE_ X.K ct W .dn (ev P F Γ xa).e)) : PE X (.UnaryOp .Not a pos) (TE_ X.K ct W m (ev P F Γ (.not xa)).e) :=
  PE.imp (pe_not ha) fun σ H Qv ⟨U, S, ρ, Q, E, ok, sl, r, po, px⟩ =>
    ⟨U, S, ρ, _, E, ok, sl, r, fun v d U1 S1 H1 s1 o1 m1 q1 => by
      cases d with
      | bool k =>
        cases m1
        exact ⟨k, rfl, po _ _ U1 S1 H1 s1 o1 (.flat (.bl _) fun _ e => nomatch e) q1⟩
      | _ => exact q1.elim, px⟩
theorem x_and {es : List Expr} (ha : PE X a (TE_ X.K ct W .dn (ev P F Γ xa).e)) (hb : PE X (.BoolOp .And (b :: es) pos) (TE_ X.K ct W m (ev P F Γ xb).e)) : PE X (.BoolOp .And (a :: b :: es) pos) (TE_ X.K ct W m (ev P F Γ (.and xa xb)).e) :=
  PE.imp (pe_and ha hb) fun σ H Qv ⟨U, S, ρ, Q, E, ok, sl, r, po, px⟩ =>
    ⟨U, S, ρ, _, E, ok, sl, r, fun v d U1 S1 H1 s1 o1 m1 q1 => by
      cases d with
      | bool k =>
        cases m1
        refine ⟨k, rfl, ?_⟩
        cases k with
        | true => exact ⟨U1, S1, ρ, Q, E, o1, sl.stp ok s1, q1, po.stp s1 o1, px.stp s1 o1⟩
        | false => exact po _ _ U1 S1 H1 s1 o1 (.flat (.bl _) fun _ e => nomatch e) q1
      | _ => exact q1.elim, px⟩
theorem x_or {es : List Expr} (ha : PE X a (TE_ X.K ct W .dn (ev P F Γ xa).e)) (hb : PE X (.BoolOp .Or (b :: es) pos) (TE_ X.K ct W m (ev P F Γ xb).e)) : PE X (.BoolOp .Or (a :: b :: es) pos) (TE_ X.K ct W m (ev P F Γ (.or xa xb)).e) :=
  PE.imp (pe_or ha hb) fun σ H Qv ⟨U, S, ρ, Q, E, ok, sl, r, po, px⟩ =>
    ⟨U, S, ρ, _, E, ok, sl, r, fun v d U1 S1 H1 s1 o1 m1 q1 => by
      cases d with
      | bool k =>
        cases m1
        refine ⟨k, rfl, ?_⟩
        cases k with
        | false => exact ⟨U1, S1, ρ, Q, E, o1, sl.stp ok s1, q1, po.stp s1 o1, px.stp s1 o1⟩
        | true => exact po _ _ U1 S1 H1 s1 o1 (.flat (.bl _) fun _ e => nomatch e) q1
      | _ => exact q1.elim, px⟩
theorem x_ife (hc : PT X c (TT_ X.K ct W (ev P F Γ xc).t)) (ha : PE X a (TE_ X.K ct W m (ev P F Γ xa).e)) (hb : PE X b (TE_ X.K ct W m (ev P F Γ xb).e)) : PE X (.IfExp c a b pos) (TE_ X.K ct W m (ev P F Γ (.ife xc xa xb)).e) :=
  PE.imp (pe_ifExp hc ha hb) fun σ H Qv ⟨U, S, ρ, Q, E, ok, sl, r, po, px⟩ =>
    ⟨U, S, ρ, _, E, ok, sl, r, fun k U1 S1 H1 s1 o1 q1 => by
      cases k with
      | true => exact ⟨U1, S1, ρ, Q, E, o1, sl.stp ok s1, q1, po.stp s1 o1, px.stp s1 o1⟩
      | false => exact ⟨U1, S1, ρ, Q, E, o1, sl.stp ok s1, q1, po.stp s1 o1, px.stp s1 o1⟩, px⟩
theorem t_not (ha : PT X a (TT_ X.K ct W (ev P F Γ xa).t)) : PT X (.UnaryOp .Not a pos) (TT_ X.K ct W (ev P F Γ (.not xa)).t) :=
  PT.imp (pt_not ha) fun σ H Qv ⟨U, S, ρ, Q, E, ok, sl, r, po, px⟩ => ⟨U, S, ρ, _, E, ok, sl, r, fun k U1 S1 H1 s1 o1 q1 => po _ U1 S1 H1 s1 o1 q1, px⟩
theorem t_and {es : List Expr} (ha : PT X a (TT_ X.K ct W (ev P F Γ xa).t)) (hb : PW X (.BoolOp .And (b :: es) pos) (TT_ X.K ct W (ev P F Γ xb).t)) : PW X (.BoolOp .And (a :: b :: es) pos) (TT_ X.K ct W (ev P F Γ (.and xa xb)).t) :=
  ⟨fun wh pins s σ H Qv I ⟨U, S, ρ, Q, E, ok, sl, r, po, px⟩ => (pw_and ha hb).run wh pins s σ H Qv I ⟨U, S, ρ, _, E, ok, sl, r, fun k U1 S1 H1 s1 o1 q1 => by
    cases k with
    | true => exact ⟨U1, S1, ρ, Q, E, o1, sl.stp ok s1, q1, fun k U2 S2 H2 s2 o2 q2 => po k U2 S2 H2 (s1.trans o1 s2) o2 q2, px.stp s1 o1⟩
    | false => exact po _ U1 S1 H1 s1 o1 q1, px⟩⟩
theorem t_or {es : List Expr} (ha : PT X a (TT_ X.K ct W (ev P F Γ xa).t)) (hb : PW X (.BoolOp .Or (b :: es) pos) (TT_ X.K ct W (ev P F Γ xb).t)) : PW X (.BoolOp .Or (a :: b :: es) pos) (TT_ X.K ct W (ev P F Γ (.or xa xb)).t) :=
  ⟨fun wh pins s σ H Qv I ⟨U, S, ρ, Q, E, ok, sl, r, po, px⟩ => (pw_or ha hb).run wh pins s σ H Qv I ⟨U, S, ρ, _, E, ok, sl, r, fun k U1 S1 H1 s1 o1 q1 => by
    cases k with
    | false => exact ⟨U1, S1, ρ, Q, E, o1, sl.stp ok s1, q1, fun k U2 S2 H2 s2 o2 q2 => po k U2 S2 H2 (s1.trans o1 s2) o2 q2, px.stp s1 o1⟩
    | true => exact po _ U1 S1 H1 s1 o1 q1, px⟩⟩
/-- lists of expressions -/
theorem l_nil : PA X [] (TA_ X.K ct W m 0 (ev P F Γ .nil).l) :=
  PA.imp pa_nil fun σ H Qv ⟨U, S, ρ, Q, E, ok, sl, r, po, px⟩ => po _ _ U S H rfl .refl ok .nil r
end
end
end Sb
set_option linter.all false
set_option maxRecDepth 20000
set_option maxHeartbeats 1000000
set_option autoImplicit false
/-! A8: more rules of expressions. -/
namespace Sb
open PySem PySem.Spec PyProof.Rows L2
section
variable {X : Cx} {ct : CT} {W : WX} {m : Mo} {P : Prog} {F : Fsem} {Γ : List Clo}
variable {a b c : Expr} {es : List Expr} {xa xb xc : Ex} {pos : Pos}
theorem MdL.back {S1 S' : Store} {U U1 U' : Um} {H H1 H' : Hp} (s : Stp U H U1 H1) (o1 : Ok X.K ct U1 S1 H1) : ∀ {vs : List V} {ds : List D}, MdL X.K ct m H1 U' S' H' vs ds → MdL X.K ct m H U' S' H' vs ds
  | _, _, .nil => .nil
  | _, _, .cons h n t => .cons (h.back s o1) n (MdL.back s o1 t)
theorem Md.stp {S S1 : Store} {U U1 : Um} {H0 H H1 : Hp} {v : V} {d : D} (h : Md X.K ct m H0 U S H v d) (n : m ≠ .fr) (o : Ok X.K ct U S H) (s : Stp U H U1 H1) : Md X.K ct m H0 U1 S1 H1 v d := by
  cases m with
  | fr => exact absurd rfl n
  | dn => exact Dn.stp h o s
  | bn => exact Bn.stp h o s
  | ow =>
    cases h with
    | of h => exact .of (h.stp o s)
    | own h1 h2 h3 h4 => exact .own h1 (by rw [s.un _ (by rw [h3]; simp), h2]) (s.st _ _ h3 (by rw [h2]; decide)) (h4.stp o s)
  | an =>
    cases h with
    | of h => exact .of (h.stp o s)
    | bor h2 h3 h4 => exact .bor (by rw [s.un _ (by rw [h3]; simp), h2]) (s.st _ _ h3 (by rw [h2]; decide)) (h4.stp o s)
theorem MdL.len {S' : Store} {U' : Um} {H H' : Hp} : ∀ {vs : List V} {ds : List D}, MdL X.K ct m H U' S' H' vs ds → vs.length = ds.length
  | _, _, .nil => rfl
  | _, _, .cons _ _ t => by rw [List.length_cons, List.length_cons, MdL.len t]
/-- an own one: where it stands -/
theorem Md.own {S' : Store} {U' : Um} {H H' : Hp} {v : V} {e : List D} (h : Md X.K ct m H U' S' H' v (.own e)) : ∃ p xs, v = .ref p ∧ H p = none ∧ U' p = .ow ∧ H' p = some (.lst xs) ∧ DnL X.K ct U' H' xs e := by
  cases m with
  | fr => exact (nomatch h.dn)
  | dn => nomatch h
  | bn => cases h with
    | of h => nomatch h
  | ow => cases h with
    | of h => nomatch h
    | own a b c d => exact ⟨_, _, rfl, a, b, c, d⟩
  | an => cases h with
    | of h => nomatch h
theorem MdL.get {S' : Store} {U' : Um} {H H' : Hp} : ∀ {vs : List V} {ds : List D} (j : Nat) {d : D}, MdL X.K ct m H U' S' H' vs ds → ds[j]? = some d → ∃ v, vs[j]? = some v ∧ Md X.K ct m H U' S' H' v d
  | _, _, j, _, .nil, e => by simp at e
  | _, _, 0, _, .cons h _ t, e => by simp at e; subst e; exact ⟨_, rfl, h⟩
  | _, _, j + 1, _, .cons _ _ t, e => by
    obtain ⟨v, h1, h2⟩ := MdL.get j t (by simpa using e)
    exact ⟨v, by simpa using h1, h2⟩
theorem l_cons (hm : m ≠ .fr) (hs : starEach (a :: es) X.env = (false, eval a X.env) :: starEach es X.env) (ha : PE X a (TE_ X.K ct W m (ev P F Γ xa).e)) {n : Nat} (hb : PA X es (TA_ X.K ct W m n (ev P F Γ xb).l)) : PA X (a :: es) (TA_ X.K ct W m (n + 1) (ev P F Γ (.cons xa xb)).l) :=
  PA.imp (pa_cons ha hb hs) fun σ H Qv ⟨U, S, ρ, Q, E, ok, sl, r, po, px⟩ =>
    ⟨U, S, ρ, _, E, ok, sl, r, fun v d U1 S1 H1 s1 o1 m1 q1 =>
      ⟨U1, S1, ρ, _, E, o1, sl.stp ok s1, q1, fun vs ds U2 S2 H2 hl s2 o2 m2 q2 => po _ _ U2 S2 H2 (by rw [List.length_cons, hl]) (s1.trans o1 s2) o2
        (.cons (m1.stp hm o1 s2) (fun e z j e' hj hv => by
          subst z
          obtain ⟨p, xs, rfl, _, _, h3, _⟩ := m1.own
          obtain ⟨v', h4, h5⟩ := m2.get j hj
          obtain ⟨p', xs', rfl, h6, _⟩ := h5.own
          rw [hv] at h4
          cases h4
          rw [h3] at h6; cases h6) (m2.back s1 o1)) q2, px.stp s1 o1⟩, px⟩
theorem MdL.dnl {S' : Store} {U' : Um} {H H' : Hp} : ∀ {vs : List V} {ds : List D}, MdL X.K ct .dn H U' S' H' vs ds → DnL X.K ct U' H' vs ds
  | _, _, .nil => .nil
  | _, _, .cons h _ t => .cons h (MdL.dnl t)
theorem MdL.bnl {S' : Store} {U' : Um} {H H' : Hp} : ∀ {vs : List V} {ds : List D}, MdL X.K ct .bn H U' S' H' vs ds → BnL X.K ct U' H' vs ds
  | _, _, .nil => .nil
  | _, _, .cons h _ t => .cons h (MdL.bnl t)
theorem sl_line : sl = sizeLine := by rw [sizeLine_eq]
/-- a fresh list that holds data -/
theorem FrS.new {S : Store} {U : Um} {H0 H : Hp} {p : Addr} {xs : List V} {ds : List D} (o : Ok X.K ct U S H) (h0 : H0 p = none) (h : H p = none) (l : DnL X.K ct U H xs ds) : FrS X.K ct H0 U S (upd H p (.lst xs)) (.ref p) (.lst ds) := by
  have f := FrS.of o (Kp.new h) (o.new h) (Fr_.new o h h l)
  exact ⟨f.dn, fun ds e => by
    obtain ⟨q, ys, e1, _, e3⟩ := f.lst ds e
    cases e1
    exact ⟨p, ys, rfl, h0, e3⟩⟩
theorem x_lst {n : Nat} (h : PA X es (TA_ X.K ct W .dn n (ev P F Γ xa).l)) : PE X (.List es pos) (TE_ X.K ct W m (ev P F Γ (.lst xa)).e) :=
  PE.imp (pe_lst h) fun σ H Qv ⟨U, S, ρ, Q, E, ok, sl, r, po, px⟩ =>
    ⟨U, S, ρ, _, E, ok, sl, r, fun vs ds U1 S1 H1 _ s1 o1 m1 ⟨q1, q2⟩ => ⟨by rw [m1.len, ← sl_line]; exact q1, fun p hp =>
      po _ _ U1 S1 _ (s1.trans o1 (Stp.new hp)) (o1.new hp) (.ofFr (.new o1 (none_back s1 o1 hp) hp m1.dnl)) q2⟩, px⟩
theorem pe_tupF {t : TA} {x1} (h : PA X es t) : PE X (.Tuple es x1 pos) (fun σ H Q => t σ H fun xs H1 => xs.length ≤ sizeLine ∧ ∀ p ob, PlainT ob → H1 p = none → Q (.ref p) (upd H1 p (.frz ob (.tup xs)))) := by
  refine ⟨fun pins s σ H Q I hq => ?_⟩
  refine wpAny_Tuple_spliced (thn (h.run pos pins s σ H _ I hq) fun us s1 ⟨xs, H1, I1, r, z, q⟩ => ⟨by rw [← r.length]; exact z, ?_⟩)
  have hf : H1 s1.heap.objs.size = none := I1.hok.fresh (Nat.le_refl _)
  exact ⟨.ref s1.heap.objs.size, _, I1.newTup r z, rfl, q _ _ ⟨rfl, rfl⟩ hf⟩
theorem x_tup {x1} {n : Nat} (h : PA X es (TA_ X.K ct W .dn n (ev P F Γ xa).l)) : PE X (.Tuple es x1 pos) (TE_ X.K ct W m (ev P F Γ (.tup xa)).e) :=
  PE.imp (pe_tupF h) fun σ H Qv ⟨U, S, ρ, Q, E, ok, sl, r, po, px⟩ =>
    ⟨U, S, ρ, _, E, ok, sl, r, fun vs ds U1 S1 H1 _ s1 o1 m1 ⟨q1, q2⟩ => ⟨by rw [m1.len, ← sl_line]; exact q1, fun p ob pt hp =>
      po _ _ U1 S1 _ (s1.trans o1 (Stp.new hp)) (o1.new hp) (.flat (Dn.newT o1 hp pt m1.dnl) fun _ e => nomatch e) q2⟩, px⟩
theorem opC_mark {o : Co} {b : Expr} (h : behindInMarks (opC o) b = false) : behindInMarks (opC o) b = false := h
theorem cmp_step (hu : X.A.units + 65 < cLine) (o : Co) {U S H x y Q E} {v w : V} {Qv : VK} (ok : Ok X.K ct U S H) (hx : Bn X.K ct U H v x) (hy : Bn X.K ct U H w y) (q : cmpX P F Γ o x y S Q E) (po : ∀ c, Q c S → Qv (.bl c) H) :
    rCmp X.K ct o v w H Qv := ⟨U, S, x, y, _, ok, hx, hy, q, po⟩
theorem x_cmp (hu : X.A.units + 65 < cLine) {o : Co} (hm : behindInMarks (opC o) b = false) (ha : PE X a (TE_ X.K ct W .bn (ev P F Γ xa).e)) (hb : PE X b (TE_ X.K ct W .bn (ev P F Γ xb).e)) :
    PE X (.Compare a [opC o] [b] pos) (TE_ X.K ct W m (ev P F Γ (.cmp o xa xb)).e) :=
  ⟨fun pins s σ H Qv I ⟨U, S, ρ, Q, E, ok, sl, r, po, px⟩ =>
    wpAny_Compare1 (thn (ha.run pins s σ H _ I (⟨U, S, ρ, _, E, ok, sl, r, fun v x U1 S1 H1 s1 o1 m1 q1 => ⟨U1, S1, ρ, _, E, o1, sl.stp ok s1, q1, fun w y U2 S2 H2 s2 o2 m2 q2 =>
        (cmp_step (Qv := Qv) hu o o2 (Bn.stp m1 o1 s2) m2 q2 fun c qc => po _ _ U2 S2 H2 (s1.trans o1 s2) o2 (.flat (.bl c) fun _ e => nomatch e) qc), px.stp s1 o1⟩, px⟩ : TE_ X.K ct W .bn (ev P F Γ xa).e σ H fun v H1 => TE_ X.K ct W .bn (ev P F Γ xb).e σ H1 fun w H2 => rCmp X.K ct o v w H2 Qv)) fun v s1 ⟨x, H1, I1, r1, q1⟩ =>
      thn (hb.run pins s1 σ H1 _ I1 q1) fun u s2 ⟨y, H2, I2, r2, q2⟩ => oc_all hu o pins s2 σ H2 x y v u _ I2 r1 r2 q2) hm⟩
theorem t_cmp (hu : X.A.units + 65 < cLine) {o : Co} (hm : behindInMarks (opC o) b = false) (ha : PE X a (TE_ X.K ct W .bn (ev P F Γ xa).e)) (hb : PE X b (TE_ X.K ct W .bn (ev P F Γ xb).e)) :
    PT X (.Compare a [opC o] [b] pos) (TT_ X.K ct W (ev P F Γ (.cmp o xa xb)).t) :=
  PT.imp (pt_cmpR (oc_all hu o) ha hb hm) fun σ H Qv ⟨U, S, ρ, Q, E, ok, sl, r, po, px⟩ =>
    te_two ok sl px r fun v x U1 S1 H1 w y U2 S2 H2 s1 o1 m1 s2 o2 m2 q =>
      cmp_step hu o o2 (Bn.stp m1 o1 s2) m2 q fun c qc => ⟨c, rfl, po _ U2 S2 H2 (s1.trans o1 s2) o2 qc⟩
theorem cmp2_link (hu : X.A.units + 65 < cLine) {o o2 : Co} {σ : L2.St} {H : Hp} {U : Um} {S : Store} {ρ : Env} {Q : QB} {E : QD} {Qv : VK}
    (ok : Ok X.K ct U S H) (sl : Sl X.K ct U H σ ρ) (px : Px X.K ct W U H E σ) (r : (ev P F Γ (.cmp2 o o2 xa xb xc)).t ρ S Q E)
    (po : ∀ c U' S' H', Stp U H U' H' → Ok X.K ct U' S' H' → Q c S' → Qv (.bl c) H') :
    tChain (rCmp X.K ct o) (rCmp X.K ct o2) (TE_ X.K ct W .bn (ev P F Γ xa).e) (TE_ X.K ct W .bn (ev P F Γ xb).e) (TE_ X.K ct W .bn (ev P F Γ xc).e) σ H Qv := by
  refine te_two ok sl px r fun v x U1 S1 H1 w y U2 S2 H2 s1 o1 m1 s2 oo m2 q => ?_
  refine cmp_step hu o oo (Bn.stp m1 o1 s2) m2 q fun c qc => ⟨c, rfl, ?_⟩
  cases c with
  | false => exact po false U2 S2 H2 (s1.trans o1 s2) oo qc
  | true =>
    exact ⟨U2, S2, ρ, _, E, oo, sl.stp ok (s1.trans o1 s2), qc, fun w' z U3 S3 H3 s3 o3 m3 q3 =>
      cmp_step hu o2 o3 (Bn.stp m2 oo s3) m3 q3 fun c qc => po c U3 S3 H3 ((s1.trans o1 s2).trans oo s3) o3 qc, px.stp (s1.trans o1 s2) oo⟩
theorem x_cmp2 (hu : X.A.units + 65 < cLine) {o o2 : Co} (hm : lastMarks [opC o, opC o2] [b, c] = false) (ha : PE X a (TE_ X.K ct W .bn (ev P F Γ xa).e)) (hb : PE X b (TE_ X.K ct W .bn (ev P F Γ xb).e)) (hc : PE X c (TE_ X.K ct W .bn (ev P F Γ xc).e)) :
    PE X (.Compare a [opC o, opC o2] [b, c] pos) (TE_ X.K ct W m (ev P F Γ (.cmp2 o o2 xa xb xc)).e) :=
  PE.imp (pe_chain (oc_all hu o) (oc_all hu o2) ha hb hc hm) fun σ H Qv ⟨U, S, ρ, Q, E, ok, sl, r, po, px⟩ =>
    cmp2_link hu ok sl px r fun c U' S' H' s' o' q' => po _ _ U' S' H' s' o' (.flat (.bl c) fun _ e => nomatch e) q'
theorem t_cmp2 (hu : X.A.units + 65 < cLine) {o o2 : Co} (hm : lastMarks [opC o, opC o2] [b, c] = false) (ha : PE X a (TE_ X.K ct W .bn (ev P F Γ xa).e)) (hb : PE X b (TE_ X.K ct W .bn (ev P F Γ xb).e)) (hc : PE X c (TE_ X.K ct W .bn (ev P F Γ xc).e)) :
    PT X (.Compare a [opC o, opC o2] [b, c] pos) (TT_ X.K ct W (ev P F Γ (.cmp2 o o2 xa xb xc)).t) :=
  PT.imp (pt_chain (oc_all hu o) (oc_all hu o2) ha hb hc hm) fun σ H Qv ⟨U, S, ρ, Q, E, ok, sl, r, po, px⟩ =>
    cmp2_link hu ok sl px r fun c U' S' H' s' o' q' => ⟨c, rfl, po c U' S' H' s' o' q'⟩
/-! ### places, slices -/
theorem Md.bm {S' : Store} {U' : Um} {H H' : Hp} {v : V} {d : D} (h : Md X.K ct .bn H U' S' H' v d) (n : ∀ q, d ≠ .ptr q) : Bm X.K ct U' H' v d := .of h
theorem x_ix (hs : PlainIx b) (ha : PE X a (TE_ X.K ct W .bn (ev P F Γ xa).e)) (hb : PE X b (TE_ X.K ct W .dn (ev P F Γ xb).e)) (hm : m ≠ .fr) : PE X (.Subscript a b pos) (TE_ X.K ct W m (ev P F Γ (.ix xa xb)).e) :=
  PE.imp (pe_ix oi_ix ha hb hs) fun σ H Qv ⟨U, S, ρ, Q, E, ok, sl, r, po, px⟩ =>
    te_two ok sl px r fun v x U1 S1 H1 w y U2 S2 H2 s1 o1 m1 s2 o2 m2 q => by
      have b1 : Bn X.K ct U2 H2 v x := Bn.stp m1 o1 s2
      have pd := (po.stp (s1.trans o1 s2) o2).finD hm o2
      cases x with
      | ptr p =>
        change (match S2 p with | some (.lst xs) => ixD (.lst xs) y fun z => Q z S2 | _ => False) at q
        cases e : S2 p with
        | none => rw [e] at q; exact q.elim
        | some cell =>
          rw [e] at q
          cases cell with
          | lst xs =>
            cases b1 with
            | of h =>
              cases h with
              | ptr k =>
                obtain ⟨vs, g1, g2⟩ := o2.cell p _ e
                exact ⟨U2, S2, _, y, _, o2, .ce g1 g2, .of m2, q, pd⟩
          | _ => exact q.elim
      | _ => exact ⟨U2, S2, _, y, _, o2, .of b1, .of m2, q, pd⟩
theorem o_none : PO X none (TO_ X.K ct W (ev P F Γ .nil).o) :=
  PO.imp po_none fun σ H Qv ⟨U, S, ρ, Q, E, ok, sl, r, po, px⟩ => po _ U S H .refl ok r
theorem ev_o (x : Ex) (hx : x ≠ .nil) : (ev P F Γ x).o = fun ρ S Q E => (ev P F Γ x).e ρ S (fun d S => match d with
    | .int k => Q (some k) S
    | _ => False) E := by
  cases x <;> first | exact absurd rfl hx | rfl
theorem o_some (hx : xa ≠ .nil) (ha : PE X a (TE_ X.K ct W .dn (ev P F Γ xa).e)) : PO X (some a) (TO_ X.K ct W (ev P F Γ xa).o) :=
  PO.imp (po_some ha) fun σ H Qv ⟨U, S, ρ, Q, E, ok, sl, r, po, px⟩ => by
    rw [ev_o xa hx] at r
    exact ⟨U, S, ρ, _, E, ok, sl, r, fun v d U1 S1 H1 s1 o1 m1 q1 => by
      cases d with
      | int k =>
        cases m1
        exact ⟨k, rfl, po _ U1 S1 H1 s1 o1 q1⟩
      | _ => exact q1.elim, px⟩
theorem x_sl {lo hi : Option Expr} {xl xh : Ex} {p2 : Pos} (ha : PE X a (TE_ X.K ct W .bn (ev P F Γ xa).e)) (hl : PO X lo (TO_ X.K ct W (ev P F Γ xl).o)) (hh : PO X hi (TO_ X.K ct W (ev P F Γ xh).o)) :
    PE X (.Subscript a (.Slice lo hi none p2) pos) (TE_ X.K ct W m (ev P F Γ (.sl xa xl xh)).e) :=
  PE.imp (pe_slice os_sl ha hl hh) fun σ H Qv ⟨U, S, ρ, Q, E, ok, sl, r, po, px⟩ =>
    ⟨U, S, ρ, _, E, ok, sl, r, fun v d U1 S1 H1 s1 o1 m1 q1 => ⟨U1, S1, ρ, _, E, o1, sl.stp ok s1, q1, fun l U2 S2 H2 s2 o2 q2 =>
      ⟨U2, S2, ρ, _, E, o2, (sl.stp ok s1).stp o1 s2, q2, fun h U3 S3 H3 s3 o3 q3 =>
        ⟨U3, S3, d, _, o3, (Bn.stp m1 o1 s2).stp o2 s3, q3, (po.stp ((s1.trans o1 s2).trans o2 s3) o3).fin o3⟩, (px.stp s1 o1).stp s2 o2⟩, px.stp s1 o1⟩, px⟩
theorem x_rev {k : Nat} {p1 p2 p3 : Pos} (ha : PE X a (TE_ X.K ct W .bn (ev P F Γ xa).e)) :
    PE X (.Subscript a (.Slice none none (some (.UnaryOp .USub (.Constant (.int 1) k p1) p2)) p3) pos) (TE_ X.K ct W m (ev P F Γ (.rev xa)).e) :=
  PE.imp (pe_revL ha) fun σ H Qv ⟨U, S, ρ, Q, E, ok, sl, r, po, px⟩ =>
    ⟨U, S, ρ, _, E, ok, sl, r, fun v d U1 S1 H1 s1 o1 m1 q1 => by
      cases d with
      | lst ds =>
        obtain ⟨p, xs, rfl, h, l⟩ := Bn.seqL m1
        exact ⟨p, xs, rfl, .inl (.inl h), fun p hp => po _ _ U1 S1 _ (s1.trans o1 (Stp.new hp)) (o1.new hp) (.ofFr (.new o1 (none_back s1 o1 hp) hp l.reverse)) q1⟩
      | _ => exact q1.elim, px⟩
/-! ### built-in functions, methods -/
theorem x_bi {bi : Bi} {n : Str} {f : Value} {p : Pos} {e : Expr} (hc : CallR X f (rBi X.K ct bi)) (hf : (∃ id, f = .builtin id) ∨ ∃ T, f = .type T) (hg : Gl X n) (hm : X.mg n = none) (hv : bootBuiltins n = some f) (hn : n ≠ "__name__") (hdb : (n == ("__debug__" : Str)) = false)
    (he : starEach (e :: es) X.env = (false, eval e X.env) :: starEach es X.env) (hpl : (backTo pos (starEach es X.env)).any (·.1) = false)
    (hx : ∀ ds S Q E, biX P F Γ bi ds S Q E → biD bi ds fun r => Q r S)
    {nn : Nat} (ha : PA X (e :: es) (TA_ X.K ct W .bn nn (ev P F Γ xa).l)) : PE X (.Call (.Name n p) (e :: es) [] pos) (TE_ X.K ct W m (ev P F Γ (.bi bi xa)).e) := by
  have key : PE X (.Call (.Name n p) (e :: es) [] pos) (tCB (rBi X.K ct bi) (TA_ X.K ct W .bn nn (ev P F Γ xa).l)) := by
    rcases hf with ⟨id, rfl⟩ | ⟨T, rfl⟩
    · exact pe_callB hc hg hm hv ha hn hdb he hpl
    · exact pe_callTy hc hg hm hv ha hn hdb he hpl
  exact PE.imp key fun σ H Qv ⟨U, S, ρ, Q, E, ok, sl, r, po, px⟩ =>
    ⟨U, S, ρ, _, E, ok, sl, r, fun vs ds U1 S1 H1 _ s1 o1 m1 q1 => ⟨U1, S1, ds, _, o1, m1.bnl, hx ds S1 Q E q1, (po.stp s1 o1).fin o1⟩, px⟩
/-! ### a value as a test -/
theorem tru_run {pins : List (Addr × Obj)} {s : Shared} {σ : L2.St} {H : Hp} {U : Um} {S : Store} {v : V} {d : D} {u : Value} {Q : Bool → Prop} {Qv : Bool → Hp → Prop} (I : Inv X pins σ H s) (r : RelV v u) (ok : Ok X.K ct U S H) (h : Bn X.K ct U H v d) (q : truD d Q) (po : ∀ c, Q c → Qv c H) :
    wpAny (model X.prog X.w) X.A (truthy u) (TP X pins σ Qv) X.xe s := by
  refine tru_ok pins s σ H v u Qv I r ?_
  cases d with
  | none => cases h.non; exact ⟨false, rfl, po _ q⟩
  | bool k => cases h.bl; exact ⟨k, rfl, po _ q⟩
  | int i => cases h.int; exact ⟨_, rfl, po _ q⟩
  | str x =>
    cases h.str
    refine ⟨(x.length : Int) != 0, ⟨by rw [← sl_line]; exact q.1, rfl⟩, po _ ?_⟩
    have : (x.length != 0) = ((x.length : Int) != 0) := by
      rw [Bool.eq_iff_iff]; simp
    rw [← this]; exact q.2
  | lst ds =>
    obtain ⟨p, xs, rfl, hp, l⟩ := h.seqL
    refine ⟨!xs.isEmpty, .inl ⟨xs, .inl (.inl hp), rfl⟩, po _ ?_⟩
    have : xs.isEmpty = ds.isEmpty := by
      cases l with
      | nil => rfl
      | cons _ _ => rfl
    rw [this]; exact q
  | tup ds =>
    obtain ⟨p, o, xs, rfl, k, hp, pt, l⟩ := h.seqT
    refine ⟨!xs.isEmpty, .inr (.inl ⟨xs, .inl (.inr ⟨_, hp⟩), rfl⟩), po _ ?_⟩
    have : xs.isEmpty = ds.isEmpty := by
      cases l with
      | nil => rfl
      | cons _ _ => rfl
    rw [this]; exact q
  | _ => exact q.elim
theorem t_val (he : ∀ whole, isTrue a X.env whole = (do let v ← whole; standAt a.pos; holding [v] (truthy v))) (ht : (ev P F Γ xa).t = fun ρ S Q E => (ev P F Γ xa).e ρ S (fun d S => truX P F Γ d S Q E) E) (ha : PE X a (TE_ X.K ct W .bn (ev P F Γ xa).e)) :
    PT X a (TT_ X.K ct W (ev P F Γ xa).t) := by
  refine ⟨fun pins s σ H Qv I ⟨U, S, ρ, Q, E, ok, sl, r, po, px⟩ => ?_⟩
  rw [ht] at r
  refine isTrue_plain (thn (ha.run pins s σ H (fun v H1 => ∃ U1 S1 d, Ok X.K ct U1 S1 H1 ∧ Bn X.K ct U1 H1 v d ∧ truX P F Γ d S1 Q E ∧ ∀ c, Q c S1 → Qv c H1) I ⟨U, S, ρ, _, E, ok, sl, r, fun v d U1 S1 H1 s1 o1 m1 q1 => ⟨U1, S1, d, o1, m1, q1, fun c qc => po c U1 S1 H1 s1 o1 qc⟩, px⟩)
    fun v s1 ⟨x, H1, I1, r1, U1, S1, d, o1, b1, q1, p1⟩ => ?_) (he _)
  unfold truX at q1
  split at q1
  · exact q1.elim
  · exact tru_run I1 r1 o1 b1 q1 p1
end
end Sb
set_option linter.all false
set_option maxRecDepth 20000
set_option maxHeartbeats 1000000
set_option autoImplicit false
/-! A9: what is walked; targets; comprehensions. -/
namespace Sb
open PySem PySem.Spec PyProof.Rows L2
section
variable {X : Cx} {ct : CT} {W : WX} {m : Mo} {P : Prog} {F : Fsem} {Γ : List Clo}
variable {a b c : Expr} {es : List Expr} {xa xb xc : Ex} {pos : Pos}
structure Stq (U : Um) (H : Hp) (U' : Um) (H' : Hp) : Prop where
  st : ∀ a o, H a = some o → U a ≠ .ce → U a ≠ .lc → H' a = some o
  un : ∀ a, H a ≠ none → U' a = U a
theorem Stp.q {U U' : Um} {H H' : Hp} (h : Stp U H U' H') : Stq U H U' H' := ⟨fun a o e k _ => h.st a o e k, h.un⟩
theorem Stq.w {U U1 : Um} {H H1 : Hp} (a : Stq U H U1 H1) : StW U H U1 H1 := fun x o e k => ⟨a.st x o e (by rw [k]; decide) (by rw [k]; decide), by rw [a.un x (by rw [e]; simp), k]⟩
theorem Stq.ce {S : Store} {U U1 : Um} {H H1 : Hp} (a : Stq U H U1 H1) (o : Ok X.K ct U S H) : ∀ x, U x = .ce → U1 x = .ce := fun x h => by
  rw [a.un x (o.there x (by rw [h]; decide)), h]
/-- statements (true) or only expressions (false) have run in between -/
def RelM (st : Bool) (U0 : Um) (H0 : Hp) (U : Um) (H : Hp) : Prop := if st = true then StW U0 H0 U H ∧ ∀ a, U0 a = .ce → U a = .ce else Stq U0 H0 U H
def ItemOk (K : PySem.W.Frag) (ct : CT) (raw : Bool) (U : Um) (H : Hp) (x : V) (H2 : Hp) (d : D) : Prop := (H2 = H ∧ Dn K ct U H x d) ∨ raw = true ∧ ∃ p vs ds, x = .ref p ∧ d = .tup ds ∧ H p = none ∧ H2 = upd H p (.tup vs) ∧ DnL K ct U H vs ds
def WalkOk (K : PySem.W.Frag) (ct : CT) (st raw : Bool) (J : It) (xs : List D) (U' : Um) (H' : Hp) : Prop :=
  Walk J xs.length (fun H => ∃ U, RelM st U' H' U H) fun i H x H2 => ∃ d, xs[i]? = some d ∧ ∀ U S, RelM st U' H' U H → Ok K ct U S H → ItemOk K ct raw U H x H2 d
def TI_ (K : PySem.W.Frag) (ct : CT) (W : WX) (st raw : Bool) (r : Env → Store → QL → QD → Prop) : TI := fun σ H R => ∃ U S ρ Q E, Ok K ct U S H ∧ Sl K ct U H σ ρ ∧ r ρ S Q E ∧
  (∀ J xs U' S' H', Stp U H U' H' → Ok K ct U' S' H' → WalkOk K ct st raw J xs U' H' → Q xs S' → R J H') ∧ Px K ct W U H E σ
def sm : Bool → Mo | true => .dn | false => .bn
theorem RelM.dnl {st : Bool} {S0 : Store} {U0 U : Um} {H0 H : Hp} {vs : List V} {ds : List D} (h : RelM st U0 H0 U H) (o : Ok X.K ct U0 S0 H0) (l : DnL X.K ct U0 H0 vs ds) : DnL X.K ct U H vs ds := by
  cases st with
  | true => exact l.st h.1 h.2
  | false => exact l.st h.w (h.ce o)
/-- a list that is walked stands -/
theorem RelM.lst {st : Bool} {U0 U : Um} {H0 H : Hp} {p : Addr} {xs : List V} {v : V} {ds : List D} (h : RelM st U0 H0 U H) (hp : H0 p = some (.lst xs)) (k : st = true → U0 p = .sh) (k2 : U0 p = .sh ∨ U0 p = .ow) : H p = some (.lst xs) := by
  cases st with
  | true => exact (h.1 p _ hp (k rfl)).1
  | false => exact h.st p _ hp (by rcases k2 with k2 | k2 <;> (rw [k2]; decide)) (by rcases k2 with k2 | k2 <;> (rw [k2]; decide))
theorem Md.lstK {st : Bool} {S' : Store} {U' : Um} {H H' : Hp} {v : V} {ds : List D} (h : Md X.K ct (sm st) H U' S' H' v (.lst ds)) : ∃ p xs, v = .ref p ∧ H' p = some (.lst xs) ∧ DnL X.K ct U' H' xs ds ∧ (st = true → U' p = .sh) ∧ (U' p = .sh ∨ U' p = .ow) := by
  cases st with
  | true =>
    cases (show Dn X.K ct U' H' v (.lst ds) from h) with
    | lst k r l => exact ⟨_, _, rfl, r, l, fun _ => k, .inl k⟩
  | false =>
    cases (show Bn X.K ct U' H' v (.lst ds) from h) with
    | of h => cases h with
      | lst k r l => exact ⟨_, _, rfl, r, l, fun _ => k, .inl k⟩
    | lst k r l => exact ⟨_, _, rfl, r, l, (by intro e; cases e), .inr k⟩
theorem RelM.tup {st : Bool} {U0 U : Um} {H0 H : Hp} {p : Addr} {o : HO} (h : RelM st U0 H0 U H) (hp : H0 p = some o) (k : U0 p = .sh) : H p = some o := by
  cases st with
  | true => exact (h.1 p _ hp k).1
  | false => exact h.st p _ hp (by rw [k]; decide) (by rw [k]; decide)
theorem Md.bns {st : Bool} {S' : Store} {U' : Um} {H H' : Hp} {v : V} {d : D} (h : Md X.K ct (sm st) H U' S' H' v d) : Bn X.K ct U' H' v d := by
  cases st with
  | true => exact .of h
  | false => exact h
theorem walkOk_list {st raw : Bool} {S' : Store} {U' : Um} {H' : Hp} {p : Addr} {xs : List V} {ds : List D} (o : Ok X.K ct U' S' H') (hp : H' p = some (.lst xs)) (l : DnL X.K ct U' H' xs ds) (k : st = true → U' p = .sh) (k2 : U' p = .sh ∨ U' p = .ow) : WalkOk X.K ct st raw (Itl X.K p) ds U' H' := by
  have w := @walk_list X.K p xs
  unfold WalkOk
  rw [← l.length]
  refine w.mono (fun H ⟨U, r⟩ => .inl (.inl (r.lst (v := .non) (ds := ds) hp k k2))) fun i H x H2 hi ⟨U, r⟩ y => ?_
  obtain ⟨e1, e2⟩ := y
  obtain ⟨d, h1, h2⟩ := l.getV i e2
  refine ⟨d, h1, fun U1 S1 r1 o1 => .inl ⟨e1, ?_⟩⟩
  obtain ⟨v', g1, g2⟩ := (r1.dnl o l).get i h1
  rw [e2] at g1; cases g1; exact g2
theorem walkOk_tup {st raw : Bool} {S' : Store} {U' : Um} {H' : Hp} {p : Addr} {ob : Obj} {xs : List V} {ds : List D} (o : Ok X.K ct U' S' H') (hp : H' p = some (.frz ob (.tup xs))) (l : DnL X.K ct U' H' xs ds) (k : U' p = .sh) : WalkOk X.K ct st raw (Itt X.K p) ds U' H' := by
  have w := @walk_tup X.K p xs
  unfold WalkOk
  rw [← l.length]
  refine w.mono (fun H ⟨U, r⟩ => .inl (.inr ⟨_, r.tup hp k⟩)) fun i H x H2 hi ⟨U, r⟩ y => ?_
  obtain ⟨e1, e2⟩ := y
  obtain ⟨d, h1, h2⟩ := l.getV i e2
  refine ⟨d, h1, fun U1 S1 r1 o1 => .inl ⟨e1, ?_⟩⟩
  obtain ⟨v', g1, g2⟩ := (r1.dnl o l).get i h1
  rw [e2] at g1; cases g1; exact g2
theorem walkOk_str {st raw : Bool} {U' : Um} {H' : Hp} {z : Str} : WalkOk X.K ct st raw (Its z) (z.cps.toList.map fun c => .str ⟨#[c]⟩) U' H' := by
  unfold WalkOk
  have w := @walk_str z
  rw [List.length_map, Array.length_toList]
  refine w.mono (fun _ _ => trivial) fun i H x H2 hi _ y => ?_
  obtain ⟨e1, c, e2, e3⟩ := y
  exact ⟨.str ⟨#[c]⟩, by rw [List.getElem?_map, Array.getElem?_toList, e2]; rfl, fun U S _ _ => .inl ⟨e1, by rw [e3]; exact .str _⟩⟩
theorem walkOk_rng {st raw : Bool} {U' : Um} {H' : Hp} {lo : Int} {n : Nat} : WalkOk X.K ct st raw (Itr lo n) ((List.range n).map fun (k : Nat) => D.int (lo + (k : Int))) U' H' := by
  unfold WalkOk
  have w := @walk_range lo n
  rw [List.length_map, List.length_range]
  refine w.mono (fun _ _ => trivial) fun i H x H2 hi _ y => ?_
  obtain ⟨e1, e2⟩ := y
  refine ⟨.int (lo + (i : Nat)), by rw [List.getElem?_map, List.getElem?_range hi]; rfl, fun U S _ _ => .inl ⟨e1, by rw [e2]; exact .int _⟩⟩
/-- a value that is walked: a list, a tuple, a text -/
def iAny (K : PySem.W.Frag) (tl : TE) : TI := fun σ H R => tl σ H fun x H1 => (∃ a xs, x = .ref a ∧ SqL K H1 a xs ∧ R (Itl K a) H1) ∨ (∃ a xs, x = .ref a ∧ SqT K H1 a xs ∧ R (Itt K a) H1) ∨ ∃ z, x = .str z ∧ R (Its z) H1
theorem pi_any {tg l : Expr} {tl : TE} (hl : PE X l tl) : PI X tg l (iAny X.K tl) := by
  refine ⟨fun pins s σ H R I h => ?_⟩
  refine thn (hl.run pins s σ H _ I h) fun v s1 ⟨x, H1, I1, r1, q1⟩ => ?_
  rcases q1 with ⟨a, xs, rfl, hq, q⟩ | ⟨a, xs, rfl, hq, q⟩ | ⟨z, rfl, q⟩
  · cases r1
    obtain ⟨its, rv, p, hz⟩ := I1.list hq
    refine wpAny_pyIter_list p.isList ?_
    refine ⟨s1.heap.objs.size, [s1.heap.objs.size], _, _, H1, rfl, I1.kept (t' := s1.toks) fun b o e => Heap.get?_push_of_some _ e, turn_list a _, ⟨_, Heap.get?_push_size _ rfl, rfl, rfl⟩, fun b hb => ?_, q⟩
    have e : b = s1.heap.objs.size := by simpa using hb
    subst e
    exact I1.fpOk (Nat.le_refl _) (I1.hok.fresh (Nat.le_refl _))
  · cases r1
    obtain ⟨its, rv, p, hz⟩ := I1.tuple hq
    refine wpAny_pyIter_tuple (show s1.heap.IsTuple a its.toArray from p) ?_
    refine ⟨s1.heap.objs.size, [s1.heap.objs.size], _, _, H1, rfl, I1.kept (t' := s1.toks) fun b o e => Heap.get?_push_of_some _ e, turn_tuple a _, ⟨_, Heap.get?_push_size _ rfl, rfl, rfl⟩, fun b hb => ?_, q⟩
    have e : b = s1.heap.objs.size := by simpa using hb
    subst e
    exact I1.fpOk (Nat.le_refl _) (I1.hok.fresh (Nat.le_refl _))
  · obtain ⟨t, rfl⟩ := r1
    cases ha : z.cps.all (· < 128)
    · exact wpAny_pyIter_wide ha (pi_one (tk := s1.toks) I1 _ (turn_str _ z t "str_iterator" (.inr rfl)) ⟨_, Heap.get?_push_size _ rfl, rfl, rfl⟩ q)
    · exact wpAny_pyIter_ascii ha (pi_one (tk := s1.toks) I1 _ (turn_str _ z t "str_ascii_iterator" (.inl rfl)) ⟨_, Heap.get?_push_size _ rfl, rfl, rfl⟩ q)
theorem PI.imp {tg l : Expr} {t t' : TI} (h : PI X tg l t) (i : ∀ σ H Q, t' σ H Q → t σ H Q) : PI X tg l t' := ⟨fun pins s σ H Q I q => h.run pins s σ H Q I (i σ H Q q)⟩
theorem i_val {st raw : Bool} {tg : Expr} (hi : (ev P F Γ xa).i = fun ρ S Q E => (ev P F Γ xa).e ρ S (fun d S => itemsD d fun xs => Q xs S) E) (ha : PE X a (TE_ X.K ct W (sm st) (ev P F Γ xa).e)) : PI X tg a (TI_ X.K ct W st raw (ev P F Γ xa).i) :=
  PI.imp (pi_any ha) fun σ H R ⟨U, S, ρ, Q, E, ok, sl, r, po, px⟩ => by
    rw [hi] at r
    exact ⟨U, S, ρ, _, E, ok, sl, r, fun v d U1 S1 H1 s1 o1 m1 q1 => by
      cases d with
      | lst ds =>
        obtain ⟨p, xs, rfl, hp, l, k, k2⟩ := m1.lstK
        exact .inl ⟨p, xs, rfl, .inl (.inl hp), po _ _ U1 S1 H1 s1 o1 (walkOk_list o1 hp l k k2) q1⟩
      | tup ds =>
        obtain ⟨p, o, xs, rfl, k, hp, pt, l⟩ := m1.bns.seqT
        exact .inr (.inl ⟨p, xs, rfl, .inl (.inr ⟨_, hp⟩), po _ _ U1 S1 H1 s1 o1 (walkOk_tup o1 hp l k) q1⟩)
      | str z =>
        cases m1.bns.str
        exact .inr (.inr ⟨z, rfl, po _ _ U1 S1 H1 s1 o1 walkOk_str q1⟩)
      | _ => exact q1.elim, px⟩
theorem i_rng1 {st raw : Bool} {tg : Expr} {p : Pos} (hg : Gl X "range") (hm : X.mg "range" = none) (hs : starEach [a] X.env = [(false, eval a X.env)]) (ha : PE X a (TE_ X.K ct W .dn (ev P F Γ xa).e)) : PI X tg (.Call (.Name "range" p) [a] [] pos) (TI_ X.K ct W st raw (ev P F Γ (.rng1 xa)).i) :=
  PI.imp (pi_range1 hg hm (pa_cons ha pa_nil hs) hs) fun σ H R ⟨U, S, ρ, Q, E, ok, sl, r, po, px⟩ =>
    ⟨U, S, ρ, _, E, ok, sl, r, fun v d U1 S1 H1 s1 o1 m1 q1 => by
      cases d with
      | int j =>
        cases m1
        exact ⟨j, rfl, q1.1.1, q1.1.2, po _ _ U1 S1 H1 s1 o1 walkOk_rng q1.2⟩
      | _ => exact q1.elim, px⟩
theorem i_rng2 {st raw : Bool} {tg : Expr} {p : Pos} (hg : Gl X "range") (hm : X.mg "range" = none) (hs : starEach [a, b] X.env = [(false, eval a X.env), (false, eval b X.env)]) (hs2 : starEach [b] X.env = [(false, eval b X.env)])
    (ha : PE X a (TE_ X.K ct W .dn (ev P F Γ xa).e)) (hb : PE X b (TE_ X.K ct W .dn (ev P F Γ xb).e)) : PI X tg (.Call (.Name "range" p) [a, b] [] pos) (TI_ X.K ct W st raw (ev P F Γ (.rng2 xa xb)).i) :=
  PI.imp (pi_range2 hg hm (pa_cons ha (pa_cons hb pa_nil hs2) (by rw [hs, hs2])) hs hs2) fun σ H R ⟨U, S, ρ, Q, E, ok, sl, r, po, px⟩ =>
    te_two ok sl px r fun v x U1 S1 H1 w y U2 S2 H2 s1 o1 m1 s2 o2 m2 q => by
      cases x with
      | int i =>
        cases y with
        | int j =>
          cases (show Dn X.K ct U1 H1 v (.int i) from m1)
          cases (show Dn X.K ct U2 H2 w (.int j) from m2)
          exact ⟨i, j, rfl, q.1, po _ _ U2 S2 H2 (s1.trans o1 s2) o2 walkOk_rng q.2⟩
        | _ => exact q.elim
      | _ => exact q.elim
end
end Sb
set_option linter.all false
set_option maxRecDepth 100000
set_option maxHeartbeats 2000000
set_option autoImplicit false
/-! AE: enumerate of a tuple. -/
namespace PySem
open Sem (wp)
open AutoSeq1 (wpAny_loadPart')
theorem sb_meets_enumT (l : Addr) (items : Array Value) (n : Nat) (dct : Option Addr) (sl : Array (Option Value)) :
    Meets (Builtin.«enumerate.__new__» ⟨[.type "enumerate", .ref l], []⟩) (fun _ R s => s.heap.get? l = some { cls := .type "tuple", dict := dct, data := .seq items n, slots := sl } ∧
      R (.ok (.ret (.ref (s.heap.push { cls := .type "tuple_iterator", data := .fields #[.ref l, .int 0 0] }).objs.size)))
        { s with heap := (s.heap.push { cls := .type "tuple_iterator", data := .fields #[.ref l, .int 0 0] }).push { cls := .type "enumerate", data := .fields #[.none, .bool false, .ref s.heap.objs.size, rawInt 0, .none, .none] } }) :=
  .of_wp fun prog w A R s h => by
    obtain ⟨hp, g, d, tk, os⟩ := s; obtain ⟨hl, h⟩ := h
    have hsub := sub_enumerate
    have hL : Heap.IsTuple (Shared.heap ⟨hp, g, d, tk, os⟩) l items := ⟨_, hl, rfl, n, rfl⟩
    wp_walk using wpAny_loadPart' hl
    refine wpAny_stack_any fun st => wpAny_pure ?_
    split
    · rename_i c _ _ _ _ _
      cases (c == Value.type "enumerate")
      · wp_walk using wpAny_loadPart' hl, wpAny_pyIter_tuple hL
        exact ⟨_, rfl, h⟩
      · wp_walk using wpAny_loadPart' hl, wpAny_pyIter_tuple hL
        exact ⟨_, rfl, h⟩
    · wp_walk using wpAny_loadPart' hl, wpAny_pyIter_tuple hL
      exact ⟨_, rfl, h⟩
section
variable {prog : Program} {w : World} {A : Around} {E : Value → Shared → Prop} {s : Shared}
theorem sb_call_enumT {l : Addr} {items : Array Value} {Q : Value → Shared → Prop} (hL : s.heap.IsTuple l items)
    (h : ∀ h', IsEnum h' (s.heap.objs.size + 1) s.heap.objs.size 0 .none → h'.IsTupleIter s.heap.objs.size l 0 → h'.objs.size = s.heap.objs.size + 2 →
      (∀ b o, s.heap.get? b = some o → h'.get? b = some o) → Q (.ref (s.heap.objs.size + 1)) { s with heap := h' }) :
    wpAny (model prog w) A (call (.type "enumerate") [.ref l]) Q E s := by
  obtain ⟨⟨c, dct, dt, sl⟩, hl, hc, n, hd⟩ := hL
  replace hc : c = .type "tuple" := hc
  replace hd : dt = .seq items n := hd
  subst hc hd
  refine callType_new F.called_enumerate (by decide) (F.typeCall_enumerate_1 _) (F.newCall_enumerate_1 _) (fun obj => F.args_object_init_2 obj _) F.entry_enumerate_new
    (sb_meets_enumT l items n dct sl) ⟨hl, ?_⟩
  have hz : (s.heap.push { cls := .type "tuple_iterator", data := .fields #[.ref l, .int 0 0] }).objs.size = s.heap.objs.size + 1 := Heap.size_push ..
  show _ ∧ _
  rw [hz]
  have he : IsEnum ((s.heap.push { cls := .type "tuple_iterator", data := .fields #[.ref l, .int 0 0] }).push
      { cls := .type "enumerate", data := .fields #[.none, .bool false, .ref s.heap.objs.size, rawInt 0, .none, .none] }) (s.heap.objs.size + 1) s.heap.objs.size 0 .none := by
    have := Heap.get?_push_size (s.heap.push { cls := .type "tuple_iterator", data := .fields #[.ref l, .int 0 0] })
      (o := { cls := .type "enumerate", data := .fields #[.none, .bool false, .ref s.heap.objs.size, rawInt 0, .none, .none] }) rfl
    rw [hz] at this; exact this
  refine ⟨⟨_, he, rfl⟩, h _ he ⟨_, Heap.get?_push_of_some _ (Heap.get?_push_size _ rfl), rfl, rfl⟩ (by rw [Heap.size_push, hz]) fun b o x => Heap.get?_push_of_some _ (Heap.get?_push_of_some _ x)⟩
end
end PySem
namespace Sb
open PySem PySem.Spec PyProof.Rows L2
/-- the tuple at a, each item in a new pair -/
def IteT (K : PySem.W.Frag) (a : Addr) : It :=
  ⟨fun i H => ∃ (xs : List V) (x : V), SqT K H a xs ∧ xs[i]? = some x, fun i H v H' => ∃ T x, v = .ref T ∧ H T = none ∧ H' = upd H T (.tup [.int (i : Nat), x]) ∧ ∀ xs, SqT K H a xs → xs[i]? = some x, fun i H => ∃ xs : List V, SqT K H a xs ∧ xs.length ≤ i⟩
theorem turn_enumT {P : Program} {w : World} {K : PySem.W.Frag} {elts : List Expr} {kk : Nat} {tpos : Pos} (a e it : Addr) :
    Turn P w K (.Tuple elts kk tpos) (IteT K a) [e, it] e (fun i h => (∃ old, IsEnum h e it ((i : Nat) : Int) old) ∧ h.IsTupleIter it a i ∧ e ≠ it) where
  mem := by simp
  obj := fun i h st b hb => by
    obtain ⟨⟨old, he⟩, ⟨o, ho, hc, hd⟩, _⟩ := st
    have e' : b = e ∨ b = it := by simpa using hb
    rcases e' with z | z
    · rw [z]; exact ⟨_, he, fun v q => nomatch q⟩
    · rw [z]; exact ⟨o, ho, fun v q => by rw [hd] at q; cases q⟩
  keep := fun i h h' st k => let ⟨⟨old, he⟩, hi, hne⟩ := st; ⟨⟨old, k e (by simp) _ he⟩, hi.at fun o q => k it (by simp) o q, hne⟩
  item := by
    intro X hP hw hK hc i pins s σ H E I hf st hg
    subst hP hw hK
    obtain ⟨⟨old, he⟩, hit, hne⟩ := st
    obtain ⟨xs, x, hq, hx⟩ := hg
    obtain ⟨its, rv, p, hz⟩ := I.tuple hq
    obtain ⟨u, hu, ru⟩ := rv.get hx
    have hel : e < s.heap.objs.size := Heap.lt_size he
    have hil : it < s.heap.objs.size := by obtain ⟨_, q, _⟩ := hit; exact Heap.lt_size q
    have hlt : i < its.toArray.size := by simpa using (List.getElem?_eq_some_iff.mp hu).1
    have hA : (X.A.in1).handled = none := I.ok.hd hc
    have hai : a ≠ it := fun z => by
      obtain ⟨o1, q1, c1, _⟩ := hit
      obtain ⟨o2, q2, c2, _⟩ := p
      rw [z, q1] at q2; cases q2; rw [c1] at c2; exact absurd (Value.type.inj c2) (by decide)
    have hea : e ≠ a := fun z => by
      obtain ⟨o2, q2, c2, _⟩ := p
      rw [← z, he] at q2; cases q2; exact absurd (Value.type.inj c2) (by decide)
    refine wpAny_pyNext_enum_itemD (Draws.tuple hA it a hai its.toArray) he ⟨hit, p⟩ hlt hne (by simp [hne, hea]) fun u' h' tk hP ho st' hT hsz hk => ?_
    have hu' : u' = u := by
      have : its[i]? = some u' := by simpa using hP
      rw [hu] at this; cases this; rfl
    subst hu'
    refine ⟨_, rfl, wpAny_letOwnedTupleGo_enum (s := { s with heap := h', toks := tk + 1 }) ho fun h'' he' sb => ?_⟩
    have hT2 : h''.get? s.heap.objs.size = some { cls := .type "tuple", data := .seq #[.int i tk, u'] } := (sb.2 _ (Nat.ne_of_gt hel)).trans hT
    have new : ObjOk X.prog X.w (upd H s.heap.objs.size (.tup [.int (i : Nat), x])) h'' s.heap.objs.size (.tup [.int (i : Nat), x]) :=
      ⟨by show 2 ≤ sizeLine; decide, [.int i tk, u'], .cons ⟨_, rfl⟩ (.cons ru .nil), ⟨_, hT2, rfl, _, rfl⟩⟩
    have I1 : Inv X pins σ (upd H s.heap.objs.size (.tup [.int (i : Nat), x])) { s with heap := h'', toks := tk + 1 } :=
      I.turnedNew (ch := [e, it]) (fun b ob hb q => (sb.2 b (fun z => hb (by simp [z]))).trans (hk b ob (fun z => hb (by simp [z])) (fun z => hb (by simp [z])) q)) hf (Nat.le_refl _) new
    refine ⟨.ref s.heap.objs.size, _, I1, rfl, ⟨_, x, rfl, I.hok.fresh (Nat.le_refl _), rfl, fun ys hy => by rw [I.tuple_inj hy hq]; exact hx⟩, ⟨⟨u', ?_⟩, st'.1.at fun o q => (sb.2 it (Ne.symm hne)).trans q, hne⟩, fun b hb => ?_⟩
    · have e1 : ((i + 1 : Nat) : Int) = (i : Int) + 1 := by omega
      rw [e1]; exact he'
    · have hb' : b < s.heap.objs.size := by
        have e' : b = e ∨ b = it := by simpa using hb
        rcases e' with z | z
        · rw [z]; exact hel
        · rw [z]; exact hil
      rw [upd_ne (Nat.ne_of_lt hb')]
      exact (hf b hb).1
  done := by
    intro X hP hw hK hc i pins s σ H E I hf st hg
    subst hP hw hK
    obtain ⟨⟨old, he⟩, hit, hne⟩ := st
    obtain ⟨xs, hq, hx⟩ := hg
    obtain ⟨its, rv, p, hz⟩ := I.tuple hq
    obtain ⟨f0, f1, f2, f3, f4, f5⟩ := hf it (by simp)
    have hl := rv.length
    have hT : s.TypeIs (.ref e) "enumerate" := ⟨_, he, rfl⟩
    unfold pyNext
    refine wpAny_bind (wpAny_attempt (wpAny_callSpecial?_slot (name := Str.ofString "__next__") hT F.slot_enumerate_next
      (wpAny_call_entry F.slot_enumerate_next hT F.entry_enumerate_next ?_ (F.args_enumerate_next_1 _))))
    show wpAny _ _ (field (.ref e) 2 >>= _) _ _ _
    refine wpAny_bind (wpAny_field he rfl (x := .ref it) rfl ?_)
    refine wpAny_bind (wpAny_nextOf_tuple_end (I.ok.hd hc) hit p (by simp; omega) fun h' x eb hx' => ?_)
    obtain ⟨o, ho, hcl⟩ := hx'
    refine wpAny_bind (wpAny_isInstance (T := "StopIteration") (b := true) ⟨o, ho, hcl⟩ isSubtype_stop ?_)
    exact wpAny_pure ⟨rfl, I.turned (t' := s.toks) (fun b o hb q => eb b o hb q) f0 f1 f3 f4 f5⟩
  self := fun A i s Q E st h => let ⟨⟨_, he⟩, _⟩ := st; wpAny_pyIter_enum he h
/-- enumerate(x), x a list or a tuple -/
def iEnumA (K : PySem.W.Frag) (te : TE) : TI := fun σ H R => te σ H fun x H1 => (∃ a xs, x = .ref a ∧ SqL K H1 a xs ∧ R (Ite K a) H1) ∨ ∃ a xs, x = .ref a ∧ SqT K H1 a xs ∧ R (IteT K a) H1
def enQ (K : PySem.W.Frag) (R : It → Hp → Prop) : List V → Hp → Prop
  | [x], H1 => (∃ a xs, x = .ref a ∧ SqL K H1 a xs ∧ R (Ite K a) H1) ∨ ∃ a xs, x = .ref a ∧ SqT K H1 a xs ∧ R (IteT K a) H1
  | _, _ => False
theorem enQ_ok {K : PySem.W.Frag} {R : It → Hp → Prop} {vs : List V} {H1 : Hp} (h : enQ K R vs H1) : ∃ x, vs = [x] ∧ ((∃ a xs, x = .ref a ∧ SqL K H1 a xs ∧ R (Ite K a) H1) ∨ ∃ a xs, x = .ref a ∧ SqT K H1 a xs ∧ R (IteT K a) H1) := by
  match vs, h with
  | [x], h => exact ⟨x, rfl, h⟩
theorem pi_enumA {X : Cx} {e : Expr} {te : TE} {p pos tpos : Pos} {elts : List Expr} {kk : Nat} (hg : Gl X "enumerate") (hm : X.mg "enumerate" = none) (ha : PE X e te) (hs : starEach [e] X.env = [(false, eval e X.env)]) :
    PI X (.Tuple elts kk tpos) (.Call (.Name "enumerate" p) [e] [] pos) (iEnumA X.K te) := by
  refine ⟨fun pins s σ H R I h => ?_⟩
  have h' : tCons te tNil σ H (enQ X.K R) := h
  refine Call_ (ld_blt I hg hm boot_enumerate (PyProof.Rows.callWith_type1 (thn ((pa_cons ha pa_nil hs).run pos pins s σ H _ I h') fun us s1 ⟨vs, H1, I1, r1, q1⟩ => ?_) hs rfl))
  obtain ⟨x, rfl, q1⟩ := enQ_ok q1
  cases r1 with
  | cons r rr =>
    cases rr
    have fp : ∀ b, b ∈ [s1.heap.objs.size + 1, s1.heap.objs.size] → FpOk X pins H1 b := fun b hb => by
      have e' : b = s1.heap.objs.size + 1 ∨ b = s1.heap.objs.size := by simpa using hb
      have hle : s1.heap.objs.size ≤ b := by
        rcases e' with z | z
        · rw [z]; exact Nat.le_add_right _ _
        · rw [z]; exact Nat.le_refl _
      exact I1.fpOk hle (I1.hok.fresh hle)
    rcases q1 with ⟨a, xs, rfl, hq, q⟩ | ⟨a, xs, rfl, hq, q⟩
    · cases r
      obtain ⟨its, rv, p', hz⟩ := I1.list hq
      refine call_enumerate_list p'.isList fun h' he hit hsz hk => wpAny_pyIter_enum he ?_
      have I2 : Inv X pins σ H1 { s1 with heap := h' } := I1.kept (t' := s1.toks) hk
      exact ⟨s1.heap.objs.size + 1, [s1.heap.objs.size + 1, s1.heap.objs.size], _, _, H1, rfl, I2, turn_enum a (s1.heap.objs.size + 1) s1.heap.objs.size, ⟨⟨.none, he⟩, hit, Nat.succ_ne_self _⟩, fp, q⟩
    · cases r
      obtain ⟨its, rv, p', hz⟩ := I1.tuple hq
      refine sb_call_enumT (show s1.heap.IsTuple a its.toArray from p') fun h' he hit hsz hk => wpAny_pyIter_enum he ?_
      have I2 : Inv X pins σ H1 { s1 with heap := h' } := I1.kept (t' := s1.toks) hk
      exact ⟨s1.heap.objs.size + 1, [s1.heap.objs.size + 1, s1.heap.objs.size], _, _, H1, rfl, I2, turn_enumT a (s1.heap.objs.size + 1) s1.heap.objs.size, ⟨⟨.none, he⟩, hit, Nat.succ_ne_self _⟩, fp, q⟩
section
variable {X : Cx} {ct : CT} {W : WX} {P : Prog} {F : Fsem} {Γ : List Clo} {a b : Expr} {xa xb : Ex} {pos : Pos}
theorem enumL_get : ∀ (ds : List D) (n i : Nat) (d : D), ds[i]? = some d → (enumL n ds)[i]? = some (.tup [.int (n + i : Nat), d])
  | [], _, i, _, h => by simp at h
  | x :: r, n, 0, d, h => by simp at h; subst h; rfl
  | x :: r, n, i + 1, d, h => by
    have := enumL_get r (n + 1) i d (by simpa using h)
    rw [show enumL n (x :: r) = .tup [.int n, x] :: enumL (n + 1) r from rfl, List.getElem?_cons_succ, this]
    have e : n + 1 + i = n + (i + 1) := by omega
    rw [e]
theorem enumL_len : ∀ (ds : List D) (n : Nat), (enumL n ds).length = ds.length
  | [], _ => rfl
  | _ :: r, n => by
    show (enumL (n + 1) r).length + 1 = r.length + 1
    rw [enumL_len r]
theorem walk_enumT {K : PySem.W.Frag} {a : Addr} {xs : List V} : Walk (IteT K a) xs.length (fun H => SqT K H a xs) (YPair (fun i => some (.int (i : Nat))) (fun i => xs[i]?)) := by
  refine ⟨fun i _ hi q => ⟨xs, xs[i], q, by simp [hi]⟩, fun _ q => ⟨xs, q, Nat.le_refl _⟩, fun i H v H' _ q y => ?_⟩
  obtain ⟨T, x, h1, h2, h3, h4⟩ := y
  exact ⟨T, .int (i : Nat), x, h1, h2, h3, rfl, h4 xs q⟩
theorem walkOk_enum {st : Bool} {J : It} {S' : Store} {U' : Um} {H' : Hp} {xs : List V} {ds : List D} {G : Hp → Prop} (w : Walk J xs.length G (YPair (fun i => some (.int (i : Nat))) (fun i => xs[i]?))) (hG : ∀ H U, RelM st U' H' U H → G H) (o : Ok X.K ct U' S' H') (l : DnL X.K ct U' H' xs ds) : WalkOk X.K ct st true J (enumL 0 ds) U' H' := by
  unfold WalkOk
  rw [enumL_len, ← l.length]
  refine w.mono (fun H ⟨U, r⟩ => hG H U r) fun i H x H2 hi ⟨U, r⟩ y => ?_
  obtain ⟨T, x1, x2, e1, e2, e3, e4, e5⟩ := y
  cases e4
  have e5 : xs[i]? = some x2 := e5
  obtain ⟨d, h1, h2⟩ := l.getV i e5
  refine ⟨_, enumL_get ds 0 i d h1, fun U1 S1 r1 o1 => .inr ⟨rfl, T, _, _, e1, rfl, e2, e3, ?_⟩⟩
  obtain ⟨v', g1, g2⟩ := (r1.dnl o l).get i h1
  rw [e5] at g1; cases g1
  have e : (0 + i : Nat) = i := by omega
  rw [e]
  exact .cons (.int _) (.cons g2 .nil)
theorem i_enum {st : Bool} {p tpos : Pos} {elts : List Expr} {kk : Nat} (hg : Gl X "enumerate") (hm : X.mg "enumerate" = none) (hs : starEach [a] X.env = [(false, eval a X.env)]) (ha : PE X a (TE_ X.K ct W (sm st) (ev P F Γ xa).e)) :
    PI X (.Tuple elts kk tpos) (.Call (.Name "enumerate" p) [a] [] pos) (TI_ X.K ct W st true (ev P F Γ (.enum xa)).i) :=
  PI.imp (pi_enumA hg hm ha hs) fun σ H R ⟨U, S, ρ, Q, E, ok, sl, r, po, px⟩ =>
    ⟨U, S, ρ, _, E, ok, sl, r, fun v d U1 S1 H1 s1 o1 m1 q1 => by
      cases d with
      | lst ds =>
        obtain ⟨p, xs, rfl, hp, l, k, k2⟩ := m1.lstK
        exact .inl ⟨p, xs, rfl, .inl (.inl hp), po _ _ U1 S1 H1 s1 o1 (walkOk_enum walk_enum (fun H U r => .inl (.inl (r.lst (v := .non) (ds := ds) hp k k2))) o1 l) q1⟩
      | tup ds =>
        obtain ⟨p, o, xs, rfl, k, hp, pt, l⟩ := m1.bns.seqT
        exact .inr ⟨p, xs, rfl, .inl (.inr ⟨_, hp⟩), po _ _ U1 S1 H1 s1 o1 (walkOk_enum walk_enumT (fun H U r => .inl (.inr ⟨_, r.tup hp k⟩)) o1 l) q1⟩
      | _ => exact q1.elim, px⟩
end
end Sb
set_option linter.all false
set_option maxRecDepth 20000
set_option maxHeartbeats 1000000
set_option autoImplicit false
/-! A10: zip; targets; comprehensions. -/
namespace Sb
open PySem PySem.Spec PyProof.Rows L2
section
variable {X : Cx} {ct : CT} {W : WX} {m : Mo} {P : Prog} {F : Fsem} {Γ : List Clo}
variable {a b c : Expr} {es : List Expr} {xa xb xc : Ex} {pos : Pos}
/-! ### zip of two -/
theorem zip_get (ds es : List D) (i : Nat) (d e : D) (h : ds[i]? = some d) (h' : es[i]? = some e) : (zipL [ds, es])[i]? = some (.tup [d, e]) := by
  show (List.zipWith (fun x y => D.tup [x, y]) ds es)[i]? = _
  rw [List.getElem?_zipWith, h, h']
theorem zip_len (ds es : List D) : (zipL [ds, es]).length = min ds.length es.length := by
  show (List.zipWith (fun x y => D.tup [x, y]) ds es).length = _
  rw [List.length_zipWith]
theorem walkOk_zip {st : Bool} {J : It} {S' : Store} {U' : Um} {H' : Hp} {xs ys : List V} {ds es : List D} {G : Hp → Prop} (w : Walk J (min xs.length ys.length) G (YPair (fun i => xs[i]?) (fun i => ys[i]?))) (hG : ∀ H U, RelM st U' H' U H → G H) (o : Ok X.K ct U' S' H') (l : DnL X.K ct U' H' xs ds) (l' : DnL X.K ct U' H' ys es) :
    WalkOk X.K ct st true J (zipL [ds, es]) U' H' := by
  unfold WalkOk
  rw [zip_len, ← l.length, ← l'.length]
  refine w.mono (fun H ⟨U, r⟩ => hG H U r) fun i H x H2 hi ⟨U, r⟩ y => ?_
  obtain ⟨T, x1, x2, e1, e2, e3, e4, e5⟩ := y
  have e4 : xs[i]? = some x1 := e4
  have e5 : ys[i]? = some x2 := e5
  obtain ⟨d, h1, h2⟩ := l.getV i e4
  obtain ⟨e, h3, h4⟩ := l'.getV i e5
  refine ⟨_, zip_get ds es i d e h1 h3, fun U1 S1 r1 o1 => .inr ⟨rfl, T, _, _, e1, rfl, e2, e3, ?_⟩⟩
  obtain ⟨v', g1, g2⟩ := (r1.dnl o l).get i h1
  obtain ⟨v'', g3, g4⟩ := (r1.dnl o l').get i h3
  rw [e4] at g1; cases g1
  rw [e5] at g3; cases g3
  exact .cons g2 (.cons g4 .nil)
theorem walk_zipT {K : PySem.W.Frag} {a b : Addr} {xs ys : List V} : Walk (RZ.ItzT K a b) (min xs.length ys.length) (fun H => SqT K H a xs ∧ SqT K H b ys) (YPair (fun i => xs[i]?) (fun i => ys[i]?)) := by
  refine ⟨fun i _ hi q => ?_, fun _ q => ⟨xs, ys, q.1, q.2, by omega⟩, fun i H v H' _ q y => ?_⟩
  · have h1 : i < xs.length := by omega
    have h2 : i < ys.length := by omega
    exact ⟨xs, ys, xs[i], ys[i], q.1, q.2, by simp [h1], by simp [h2]⟩
  · obtain ⟨T, x, z, h1, h2, h3, h4, h5⟩ := y
    exact ⟨T, x, z, h1, h2, h3, h4 xs q.1, h5 ys q.2⟩
def zipIn : List D → (List D → Prop) → Prop
  | [.lst xs, .lst ys], Q => Q (zipL [xs, ys])
  | [.tup xs, .tup ys], Q => Q (zipL [xs, ys])
  | _, _ => False
theorem i_zip {st : Bool} {e e2 : Expr} {p tpos : Pos} {elts : List Expr} {kk : Nat} (hg : Gl X "zip") (hm : X.mg "zip" = none) (hs : starEach [e, e2] X.env = (false, eval e X.env) :: starEach [e2] X.env) (hpl : (backTo pos (starEach [e2] X.env)).any (·.1) = false)
    (hst : st = false) {nn : Nat} (ha : PA X [e, e2] (TA_ X.K ct W .bn nn (ev P F Γ xa).l)) : PI X (.Tuple elts kk tpos) (.Call (.Name "zip" p) [e, e2] [] pos) (TI_ X.K ct W st true (ev P F Γ (.zip xa)).i) :=
  PI.imp (RZ.pi_zipA hg hm ha hs hpl) fun σ H R ⟨U, S, ρ, Q, E, ok, sl, r, po, px⟩ =>
    ⟨U, S, ρ, _, E, ok, sl, r, fun vs ds U1 S1 H1 _ s1 o1 m1 q1 => by
      subst hst
      split at q1
      · cases m1 with
        | cons h1 _ t => cases t with
          | cons h2 _ t => cases t with
            | nil =>
              obtain ⟨p1, xs, rfl, g1, l1, _, k1⟩ := Md.lstK (st := false) h1
              obtain ⟨p2, ys, rfl, g2, l2, _, k2⟩ := Md.lstK (st := false) h2
              refine ⟨p1, p2, xs, ys, rfl, .inl ⟨.inl (.inl g1), .inl (.inl g2), po _ _ U1 S1 H1 s1 o1 (walkOk_zip (walk_zip rfl) (fun H U r => ⟨.inl (.inl ?_), .inl (.inl ?_)⟩) o1 l1 l2) q1⟩⟩
              · exact r.lst (v := .non) (ds := []) g1 (by intro e; cases e) k1
              · exact r.lst (v := .non) (ds := []) g2 (by intro e; cases e) k2
      · cases m1 with
        | cons h1 _ t => cases t with
          | cons h2 _ t => cases t with
            | nil =>
              obtain ⟨p1, ob1, xs, rfl, k1, g1, _, l1⟩ := Bn.seqT h1
              obtain ⟨p2, ob2, ys, rfl, k2, g2, _, l2⟩ := Bn.seqT h2
              exact ⟨p1, p2, xs, ys, rfl, .inr ⟨.inl (.inr ⟨_, g1⟩), .inl (.inr ⟨_, g2⟩), po _ _ U1 S1 H1 s1 o1 (walkOk_zip walk_zipT (fun H U r => ⟨.inl (.inr ⟨_, r.tup g1 k1⟩), .inl (.inr ⟨_, r.tup g2 k2⟩)⟩) o1 l1 l2) q1⟩⟩
      · exact q1.elim, px⟩
/-! ### simple targets: names, tuples of them -/
def ItemV (K : PySem.W.Frag) (ct : CT) (raw : Bool) (U : Um) (H : Hp) (v : V) (d : D) : Prop := Dn K ct U H v d ∨ raw = true ∧ ∃ p vs ds, v = .ref p ∧ d = .tup ds ∧ H p = some (.tup vs) ∧ DnL K ct U H vs ds
def TGc (K : PySem.W.Frag) (ct : CT) (raw : Bool) (own : List Nat) (g : D → Env → Store → (Env → Store → Prop) → QD → Prop) : TG := fun v σ H Qs => ∃ U S ρ d k E, Ok K ct U S H ∧ Sl K ct U H σ ρ ∧ ItemV K ct raw U H v d ∧ g d ρ S k E ∧
  ∀ σ' ρ', Sl K ct U H σ' ρ' → L2.wipe σ' own = L2.wipe σ own → wipe own ρ' = wipe own ρ → k ρ' S → Qs σ' H
def TGsc (K : PySem.W.Frag) (ct : CT) (own : List Nat) (g : List D → Env → Store → (Env → Store → Prop) → QD → Prop) : TGs := fun vs σ H Qs => ∃ U S ρ ds k E, Ok K ct U S H ∧ Sl K ct U H σ ρ ∧ DnL K ct U H vs ds ∧ g ds ρ S k E ∧
  ∀ σ' ρ', Sl K ct U H σ' ρ' → L2.wipe σ' own = L2.wipe σ own → wipe own ρ' = wipe own ρ → k ρ' S → Qs σ' H
theorem PG.imp {t : Expr} {g g' : TG} (h : PG X t g) (i : ∀ v σ H Q, g' v σ H Q → g v σ H Q) : PG X t g' := ⟨fun pins s σ H v u Q I r q => h.run pins s σ H v u Q I r (i v σ H Q q)⟩
theorem PGs.imp {t : List Expr} {g g' : TGs} (h : PGs X t g) (i : ∀ v σ H Q, g' v σ H Q → g v σ H Q) : PGs X t g' := ⟨fun pins s σ H v u Q I r q => h.run pins s σ H v u Q I r (i v σ H Q q)⟩
theorem Sl.put {K : PySem.W.Frag} {ct : CT} {U : Um} {H : Hp} {σ : L2.St} {ρ : Env} {i : Nat} {v : V} {d : D} (h : Sl K ct U H σ ρ) (r : Vn K ct U H v d) : Sl K ct U H (σ.set i (some v)) (ρ.set i (some d)) :=
  ⟨by rw [List.length_set, List.length_set, h.len], fun j e hj => by
    by_cases z : i = j
    · subst z
      by_cases hl : i < ρ.length
      · rw [List.getElem?_set_self hl] at hj
        cases hj
        exact ⟨v, by rw [List.getElem?_set_self (by rw [h.len]; exact hl)], r⟩
      · rw [List.getElem?_eq_none (by rw [List.length_set]; omega)] at hj; cases hj
    · rw [List.getElem?_set_ne z] at hj
      rw [List.getElem?_set_ne z]
      exact h.get j e hj⟩
theorem wipe_set {α : Type} (σ : List (Option V)) (i : Nat) (v : Option V) : ∀ own : List Nat, i ∈ own → L2.wipe (σ.set i v) own = L2.wipe σ own
  | [], h => by cases h
  | j :: r, h => by
    show (L2.wipe (σ.set i v) r).set j none = (L2.wipe σ r).set j none
    by_cases hr : i ∈ r
    · rw [wipe_set (α := α) σ i v r hr]
    · rcases List.mem_cons.mp h with z | z
      · subst z
        have : ∀ r : List Nat, i ∉ r → ∀ σ : List (Option V), L2.wipe (σ.set i v) r = (L2.wipe σ r).set i v := by
          intro r
          induction r with
          | nil => intro _ σ; rfl
          | cons k r ih =>
            intro hn σ
            show (L2.wipe (σ.set i v) r).set k none = ((L2.wipe σ r).set k none).set i v
            rw [ih (fun q => hn (List.mem_cons_of_mem _ q)), List.set_comm _ _ (fun q => hn (by rw [q]; exact List.mem_cons_self))]
        rw [this r hr σ, List.set_set]
      · exact absurd z hr
theorem wipeE_set (ρ : Env) (i : Nat) (v : Option D) : ∀ own : List Nat, i ∈ own → wipe own (ρ.set i v) = wipe own ρ
  | [], h => by cases h
  | j :: r, h => by
    show (wipe r (ρ.set i v)).set j none = (wipe r ρ).set j none
    by_cases hr : i ∈ r
    · rw [wipeE_set ρ i v r hr]
    · rcases List.mem_cons.mp h with z | z
      · subst z
        have : ∀ r : List Nat, i ∉ r → ∀ ρ : Env, wipe r (ρ.set i v) = (wipe r ρ).set i v := by
          intro r
          induction r with
          | nil => intro _ ρ; rfl
          | cons k r ih =>
            intro hn ρ
            show (wipe r (ρ.set i v)).set k none = ((wipe r ρ).set k none).set i v
            rw [ih (fun q => hn (List.mem_cons_of_mem _ q)), List.set_comm _ _ (fun q => hn (by rw [q]; exact List.mem_cons_self))]
        rw [this r hr ρ, List.set_set]
      · exact absurd z hr
theorem g_var {i : Nat} {n : Str} {own : List Nat} (nd : X.N.Nodup) (hi : X.N[i]? = some n) (hx : Loc X.env.scope n) (hf : X.fn n = true ∨ X.env.scope.names.lookup n = some .local) (ho : i ∈ own) :
    PG X (.Name n pos) (TGc X.K ct false own (ev P F Γ (.var i)).g) :=
  PG.imp (pg_name nd hi hx hf) fun v σ H Qs ⟨U, S, ρ, d, k, E, ok, sl, iv, q, po⟩ => by
    rcases iv with dv | ⟨z, _⟩
    · exact po _ _ (sl.put (.of dv)) (wipe_set (α := Nat) σ i _ own ho) (wipeE_set ρ i _ own ho) q
    · cases z
theorem gs_nil {own : List Nat} : PGs X [] (TGsc X.K ct own (ev P F Γ .nil).gs) :=
  PGs.imp pgs_nil fun vs σ H Qs ⟨U, S, ρ, ds, k, E, ok, sl, iv, q, po⟩ => by
    have q' : ds = [] ∧ k ρ S := q
    obtain ⟨e, q1⟩ := q'
    subst e
    cases iv
    exact ⟨rfl, po _ _ sl rfl rfl q1⟩
theorem gs_cons {own : List Nat} (hs : (assignEach (a :: es) X.env).map (·.2) = assign a X.env :: (assignEach es X.env).map (·.2)) (h1 : PG X a (TGc X.K ct false own (ev P F Γ xa).g)) (h2 : PGs X es (TGsc X.K ct own (ev P F Γ xb).gs)) :
    PGs X (a :: es) (TGsc X.K ct own (ev P F Γ (.cons xa xb)).gs) :=
  PGs.imp (pgs_cons h1 h2 hs) fun vs σ H Qs ⟨U, S, ρ, ds, k, E, ok, sl, iv, q, po⟩ => by
    cases iv with
    | nil => exact q.elim
    | @cons v vs d ds hv ht =>
      have q : (ev P F Γ xa).g d ρ S (fun ρ S => (ev P F Γ xb).gs ds ρ S k E) E := q
      exact ⟨v, vs, rfl, U, S, ρ, d, _, E, ok, sl, .inl hv, q, fun σ1 ρ1 sl1 w1 w1' q1 => ⟨U, S, ρ1, ds, k, E, ok, sl1, ht, q1, fun σ2 ρ2 sl2 w2 w2' q2 => po σ2 ρ2 sl2 (w2.trans w1) (w2'.trans w1') q2⟩⟩
theorem g_tup {own : List Nat} {raw : Bool} {kk n : Nat} (hc : X.calm = true) (hn : (assignEach es X.env).length = n) (hst : (assignEach es X.env).findIdx? (·.1) = none) (hl : exLen xa = n) (h : PGs X es (TGsc X.K ct own (ev P F Γ xa).gs)) :
    PG X (.Tuple es kk pos) (TGc X.K ct raw own (ev P F Γ (.tup xa)).g) :=
  PG.imp (pg_seq hc h hn hst) fun v σ H Qs ⟨U, S, ρ, d, k, E, ok, sl, iv, q, po⟩ => by
    cases d with
    | lst ds =>
      have q0 : ds.length = exLen xa ∧ (ev P F Γ xa).gs ds ρ S k E := q
      obtain ⟨ql, q⟩ := q0
      rcases iv with dv | ⟨_, p, vs, ds', rfl, e, hp, l⟩
      · obtain ⟨p, xs, rfl, hp, l⟩ := Bn.seqL (.of dv)
        exact ⟨p, xs, rfl, .inr hp, by rw [l.length, ql]; exact hl, U, S, ρ, ds, k, E, ok, sl, l, q, po⟩
      · cases e
    | tup ds =>
      have q0 : ds.length = exLen xa ∧ (ev P F Γ xa).gs ds ρ S k E := q
      obtain ⟨ql, q⟩ := q0
      rcases iv with dv | ⟨_, p, vs, ds', rfl, e, hp, l⟩
      · obtain ⟨p, o, xs, rfl, _, hp, _, l⟩ := Bn.seqT (.of dv)
        exact ⟨p, xs, rfl, .inl (.inl (.inr ⟨_, hp⟩)), by rw [l.length, ql]; exact hl, U, S, ρ, ds, k, E, ok, sl, l, q, po⟩
      · cases e
        exact ⟨p, vs, rfl, .inl (.inl (.inl hp)), by rw [l.length, ql]; exact hl, U, S, ρ, ds, k, E, ok, sl, l, q, po⟩
    | _ => exact q.elim
end
end Sb
set_option linter.all false
set_option maxRecDepth 20000
set_option maxHeartbeats 1000000
set_option autoImplicit false
/-! A11: comprehensions. -/
namespace Sb
open PySem PySem.Spec PyProof.Rows L2
section
variable {K : PySem.W.Frag} {ct : CT}
theorem StW.mut {U : Um} {H : Hp} {p : Addr} {o : HO} (k : U p ≠ .sh) : StW U H U (upd H p o) := fun a u e ka => ⟨by rw [upd_ne (fun z => k (by rw [← z]; exact ka))]; exact e, ka⟩
theorem DnL.mut {U : Um} {H : Hp} {p : Addr} {o : HO} {vs : List V} {ds : List D} (h : DnL K ct U H vs ds) (k : U p ≠ .sh) : DnL K ct U (upd H p o) vs ds := h.st (StW.mut k) fun _ z => z
theorem Dn.mut {U : Um} {H : Hp} {p : Addr} {o : HO} {v : V} {d : D} (h : Dn K ct U H v d) (k : U p ≠ .sh) : Dn K ct U (upd H p o) v d := h.st (StW.mut k) fun _ z => z
theorem Ok.mut {S : Store} {U : Um} {H : Hp} {p : Addr} {u : HO} (o : Ok K ct U S H) (k : U p = .ow ∨ U p = .lc) : Ok K ct U S (upd H p u) :=
  ⟨o.ce, fun a c e => (o.cell a c e).st (fun w q => by
      rw [upd_ne (fun z => by
        have := (o.ce a).mpr (by rw [e]; simp)
        rw [z] at this; rcases k with k | k <;> (rw [k] at this; cases this))]; exact q) (StW.mut (by rcases k with k | k <;> (rw [k]; decide))) fun _ z => z, fun a ha => by
    by_cases z : a = p
    · rw [z, upd_same]; simp
    · rw [upd_ne z]; exact o.there a ha, fun q hq => (o.tab q hq).st (fun w e => by
      rw [upd_ne (fun z => by
        have := o.tce hq
        rw [z] at this; rcases k with k | k <;> (rw [k] at this; cases this))]; exact e) (StW.mut (by rcases k with k | k <;> (rw [k]; decide)))⟩
theorem StW.rek {U : Um} {H : Hp} {p : Addr} {k : Kd} (h : U p ≠ .sh ∨ k = .sh) : StW U H (U.set p k) H := fun a u e ka => ⟨e, by
  by_cases z : a = p
  · rcases h with h | h
    · exact absurd (z ▸ ka) h
    · rw [z, Um.set_same, h]
  · rw [Um.set_ne z]; exact ka⟩
theorem ce_rek {U : Um} {p : Addr} {k : Kd} (h : U p ≠ .ce) : ∀ a, U a = .ce → U.set p k a = .ce := fun a ha => by
  rw [Um.set_ne (fun z => h (by rw [← z]; exact ha))]; exact ha
/-- another kind for a list of the def's own -/
theorem Ok.rek {S : Store} {U : Um} {H : Hp} {p : Addr} {k : Kd} (o : Ok K ct U S H) (h : U p = .ow ∨ U p = .lc) (hk : k ≠ .ce) : Ok K ct (U.set p k) S H := by
  have n1 : U p ≠ .ce := by rcases h with h | h <;> (rw [h]; decide)
  have n2 : U p ≠ .sh := by rcases h with h | h <;> (rw [h]; decide)
  refine ⟨fun a => ?_, fun a c e => (o.cell a c e).st (fun _ q => q) (StW.rek (.inl n2)) (ce_rek n1), fun a ha => ?_, fun q hq => (o.tab q hq).st (fun _ q => q) (StW.rek (.inl n2))⟩
  · by_cases z : a = p
    · rw [z, Um.set_same]
      have : S p = none := by
        cases q : S p with
        | none => rfl
        | some c => exact absurd ((o.ce p).mpr (by rw [q]; simp)) n1
      rw [this]; simp [hk, o.noT n1]
    · rw [Um.set_ne z]; exact o.ce a
  · by_cases z : a = p
    · rw [z]; exact o.there p n2
    · rw [Um.set_ne z] at ha; exact o.there a ha
theorem Um.set_set {U : Um} {p : Addr} {k k' : Kd} : (U.set p k).set p k' = U.set p k' := by
  funext a
  by_cases z : a = p
  · rw [z, Um.set_same, Um.set_same]
  · rw [Um.set_ne z, Um.set_ne z, Um.set_ne z]
theorem Um.set_self {U : Um} {p : Addr} {k : Kd} (h : U p = k) : U.set p k = U := by
  funext a
  by_cases z : a = p
  · rw [z, Um.set_same, h]
  · rw [Um.set_ne z]
/-- an own list is let go -/
theorem FrS.give {S : Store} {U : Um} {H0 H : Hp} {p : Addr} {vs : List V} {ds : List D} (o : Ok K ct U S H) (k : U p = .ow ∨ U p = .lc) (h0 : H0 p = none) (h : H p = some (.lst vs)) (l : DnL K ct U H vs ds) : FrS K ct H0 (U.set p .sh) S H (.ref p) (.lst ds) := by
  have n1 : U p ≠ .ce := by rcases k with k | k <;> (rw [k]; decide)
  have n2 : U p ≠ .sh := by rcases k with k | k <;> (rw [k]; decide)
  exact ⟨.lst Um.set_same h (l.st (StW.rek (.inl n2)) (ce_rek n1)), fun es e => by
    cases e
    exact ⟨p, vs, rfl, h0, h, Um.set_same, by rw [Um.set_set]; exact l.st (StW.rek (.inl n2)) (ce_rek n1), by rw [Um.set_set]; exact o.rek k (by decide)⟩⟩
theorem Stp.setNew {U0 U : Um} {H0 H : Hp} {p : Addr} {k : Kd} (s : Stp U0 H0 U H) (h0 : H0 p = none) : Stp U0 H0 (U.set p k) H :=
  ⟨s.st, fun a ha => by rw [Um.set_ne (fun z => ha (by rw [z]; exact h0))]; exact s.un a ha⟩
theorem Stp.updNew {U0 U : Um} {H0 H : Hp} {p : Addr} {o : HO} (s : Stp U0 H0 U H) (h0 : H0 p = none) : Stp U0 H0 U (upd H p o) :=
  ⟨fun a u e k => by rw [upd_ne (fun z => by rw [z, h0] at e; cases e)]; exact s.st a u e k, s.un⟩
end
theorem wipe_idem (σ : L2.St) : ∀ own own' : List Nat, (∀ i ∈ own, i ∈ own') → L2.wipe (L2.wipe σ own) own' = L2.wipe σ own'
  | [], _, _ => rfl
  | i :: r, own', h => by
    show L2.wipe ((L2.wipe σ r).set i none) own' = _
    rw [wipe_set (α := Nat) _ i none own' (h i List.mem_cons_self), wipe_idem σ r own' fun j hj => h j (List.mem_cons_of_mem _ hj)]
section
variable {K : PySem.W.Frag} {ct : CT}
theorem Sl.wipe {U : Um} {H : Hp} {σ : L2.St} {ρ : Env} (h : Sl K ct U H σ ρ) : ∀ own : List Nat, Sl K ct U H (L2.wipe σ own) (Sb.wipe own ρ)
  | [] => h
  | i :: r => by
    have ih := Sl.wipe h r
    refine ⟨by
      show ((L2.wipe σ r).set i none).length = ((Sb.wipe r ρ).set i none).length
      rw [List.length_set, List.length_set, ih.len], fun j d e => ?_⟩
    have e : ((Sb.wipe r ρ).set i none)[j]? = some (some d) := e
    by_cases z : i = j
    · subst z
      by_cases hl : i < (Sb.wipe r ρ).length
      · rw [List.getElem?_set_self hl] at e; cases e
      · rw [List.getElem?_eq_none (by rw [List.length_set]; omega)] at e; cases e
    · rw [List.getElem?_set_ne z] at e
      obtain ⟨v, h1, h2⟩ := ih.get j d e
      exact ⟨v, by show ((L2.wipe σ r).set i none)[j]? = _; rw [List.getElem?_set_ne z]; exact h1, h2⟩
theorem ItemOk.use {raw : Bool} {S : Store} {U : Um} {H H' : Hp} {x : V} {d : D} (h : ItemOk K ct raw U H x H' d) (o : Ok K ct U S H) : Kp U H U H' ∧ Ok K ct U S H' ∧ ItemV K ct raw U H' x d := by
  rcases h with ⟨rfl, h⟩ | ⟨hr, p, vs, ds, rfl, rfl, hp, rfl, l⟩
  · exact ⟨.refl, o, .inl h⟩
  · exact ⟨.new hp, o.new hp, .inr ⟨hr, p, vs, ds, rfl, rfl, upd_same, l.stp o (Stp.new hp)⟩⟩
end
section
variable {K : PySem.W.Frag} {ct : CT}
theorem Stq.refl {U : Um} {H : Hp} : Stq U H U H := ⟨fun _ _ h _ _ => h, fun _ _ => rfl⟩
theorem Stq.trans {U U1 U2 : Um} {S1 : Store} {H H1 H2 : Hp} (a : Stq U H U1 H1) (o1 : Ok K ct U1 S1 H1) (b : Stq U1 H1 U2 H2) : Stq U H U2 H2 := by
  have key : ∀ x, H x ≠ none → H1 x ≠ none := fun x hx => by
    by_cases h1 : U x = .ce
    · exact o1.there x (by rw [a.un x hx, h1]; decide)
    · by_cases h2 : U x = .lc
      · exact o1.there x (by rw [a.un x hx, h2]; decide)
      · cases e : H x with
        | none => exact absurd e hx
        | some o => rw [a.st x o e h1 h2]; simp
  refine ⟨fun x o e h1 h2 => ?_, fun x hx => ?_⟩
  · have hu := a.un x (by rw [e]; simp)
    exact b.st x o (a.st x o e h1 h2) (by rw [hu]; exact h1) (by rw [hu]; exact h2)
  · rw [b.un x (key x hx), a.un x hx]
theorem Stq.push {U : Um} {H : Hp} {p : Addr} {o : HO} (k : U p = .lc) : Stq U H U (upd H p o) := ⟨fun a u e _ h => by rw [upd_ne (fun z => h (by rw [z]; exact k))]; exact e, fun _ _ => rfl⟩
theorem Sl.stq {S : Store} {U U' : Um} {H H' : Hp} {σ : L2.St} {ρ : Env} (h : Sl K ct U H σ ρ) (o : Ok K ct U S H) (s : Stq U H U' H') : Sl K ct U' H' σ ρ :=
  ⟨h.len, fun i d e => by
    have hce : ∀ x, U x = .ce → U' x = .ce := fun x hx => by rw [s.un x (o.there x (by rw [hx]; decide)), hx]
    obtain ⟨v, h1, h2⟩ := h.get i d e
    refine ⟨v, h1, ?_⟩
    cases h2 with
    | of h => exact .of (h.st s.w hce)
    | bor k r l => exact .bor (by rw [s.un _ (by rw [r]; simp), k]) (s.st _ _ r (by rw [k]; decide) (by rw [k]; decide)) (l.st s.w hce)
    | own k r l => exact .own (by rw [s.un _ (by rw [r]; simp), k]) (s.st _ _ r (by rw [k]; decide) (by rw [k]; decide)) (l.st s.w hce)
    | clo e2 k h => exact .clo e2 (by rw [s.un _ (by rw [h]; simp), k]) (s.st _ _ h (by rw [k]; decide) (by rw [k]; decide))⟩
end
abbrev WF : WX := fun _ _ _ _ => False
section
variable {X : Cx} {ct : CT} {W : WX} {m : Mo} {P : Prog} {F : Fsem} {Γ : List Clo}
variable {elt tg iter : Expr} {ifs : List Expr} {xt xi xc xe : Ex} {pos : Pos} {scope : Scope} {own : List (Str × Nat)} {raw : Bool}
theorem Px.none {U : Um} {H : Hp} {σ : L2.St} : Px X.K ct W U H (fun _ _ => False) σ := fun _ _ _ _ _ _ _ _ _ h => h.elim
/-- what a turn of a comprehension's loop keeps -/
structure LcSt (K : PySem.W.Frag) (ct : CT) (U1 : Um) (H1 : Hp) (Dd : Addr) (U : Um) (S : Store) (H : Hp) (vs : List V) (acc : List D) : Prop where
  st : Stp U1 H1 U H
  ok : Ok K ct U S H
  k : U Dd = .lc
  h : H Dd = some (.lst vs)
  l : DnL K ct U H vs acc
theorem LcSt.start {U1 : Um} {S1 : Store} {H1 : Hp} {Dd : Addr} (o1 : Ok X.K ct U1 S1 H1) (hD : H1 Dd = none) : LcSt X.K ct U1 H1 Dd (U1.set Dd .lc) S1 (upd H1 Dd (.lst [])) [] [] :=
  ⟨(Stp.refl.setNew hD).updNew hD, o1.own (by decide) (Kp.new hD) (o1.new hD) hD upd_same, Um.set_same, upd_same, .nil⟩
theorem LcSt.stp {U1 U U' : Um} {S S' : Store} {H1 H H' : Hp} {Dd : Addr} {vs : List V} {acc : List D} (a : LcSt X.K ct U1 H1 Dd U S H vs acc) (s : Stp U H U' H') (o : Ok X.K ct U' S' H') : LcSt X.K ct U1 H1 Dd U' S' H' vs acc :=
  ⟨a.st.trans a.ok s, o, by rw [s.un _ (by rw [a.h]; simp)]; exact a.k, s.st _ _ a.h (by rw [a.k]; decide), a.l.stp a.ok s⟩
theorem LcSt.push {U1 U : Um} {S : Store} {H1 H : Hp} {Dd : Addr} {vs : List V} {acc : List D} {y : V} {d : D} (hD : H1 Dd = none) (a : LcSt X.K ct U1 H1 Dd U S H vs acc) (r : Dn X.K ct U H y d) : LcSt X.K ct U1 H1 Dd U S (upd H Dd (.lst (vs ++ [y]))) (vs ++ [y]) (acc ++ [d]) :=
  ⟨a.st.updNew hD, a.ok.mut (.inr a.k), a.k, upd_same, (a.l.append (.cons r .nil)).mut (by rw [a.k]; decide)⟩
theorem LcSt.done {U0 U1 U : Um} {S1 S : Store} {H0 H1 H : Hp} {Dd : Addr} {vs : List V} {acc : List D} {Q : QD} {Qv : VK} (hD : H1 Dd = none) (s1 : Stp U0 H0 U1 H1) (o1 : Ok X.K ct U1 S1 H1) (po : Po X.K ct m U0 H0 Q Qv) (a : LcSt X.K ct U1 H1 Dd U S H vs acc) (q : Q (.lst acc) S) : Qv (.ref Dd) H :=
  po _ _ (U.set Dd .sh) S H (s1.trans o1 (a.st.setNew hD)) (a.ok.rek (.inr a.k) (by decide)) (.ofFr (.give a.ok (.inr a.k) (none_back s1 o1 hD) a.h a.l)) q
theorem te_comp {σ : L2.St} {H : Hp} {Qv : VK} (h : TE_ X.K ct W m (ev P F Γ (.comp xt xi xc xe (own.map (·.2)))).e σ H Qv) :
    tLc (TI_ X.K ct W false raw (ev P F Γ xi).i) (TGc X.K ct raw (own.map (·.2)) (ev P F Γ xt).g) (TT_ X.K ct WF (ev P F Γ xc).t) (TE_ X.K ct WF .dn (ev P F Γ xe).e) (own.map (·.2)) σ H Qv := by
  obtain ⟨U, S, ρ, Q, E, ok, sl, r, po, px⟩ := h
  refine ⟨U, S, ρ, _, E, ok, sl, r, fun J xs U1 S1 H1 s1 o1 wk q1 Dd hD => ?_, px⟩
  have q1 : loopC (fun d S k => (ev P F Γ xt).g d (wipe (own.map (·.2)) ρ) S k fun _ _ => False) (fun ρ S Q => (ev P F Γ xc).t ρ S Q fun _ _ => False) (fun ρ S Q => (ev P F Γ xe).e ρ S Q fun _ _ => False) xs [] S1 fun ds S => Q (.lst ds) S := q1
  refine lc_it wk (fun i H => ∃ U S vs acc, LcSt X.K ct U1 H1 Dd U S H vs acc ∧ loopC (fun d S k => (ev P F Γ xt).g d (wipe (own.map (·.2)) ρ) S k fun _ _ => False) (fun ρ S Q => (ev P F Γ xc).t ρ S Q fun _ _ => False) (fun ρ S Q => (ev P F Γ xe).e ρ S Q fun _ _ => False) (xs.drop i) acc S fun ds S => Q (.lst ds) S)
    ⟨_, S1, [], [], .start o1 hD, q1⟩ (fun i H _ ⟨U, S, vs, acc, a, _⟩ => ⟨U, a.st.q⟩) (fun i x Hi H' hi ⟨U2, S2, vs, acc, a, lp⟩ ⟨d, hd, hy⟩ => ?_) (fun Hn ⟨U2, S2, vs, acc, a, lp⟩ => ?_)
  · obtain ⟨kp, o2, iv⟩ := (hy U2 S2 a.st.q a.ok).use a.ok
    have a' := a.stp kp.stp o2
    have hlt : i < xs.length := hi
    have e : xs.drop i = d :: xs.drop (i + 1) := by
      rw [List.drop_eq_getElem_cons hlt]
      rw [List.getElem?_eq_getElem hlt] at hd
      cases hd; rfl
    rw [e] at lp
    refine ⟨U2, S2, wipe (own.map (·.2)) ρ, d, _, _, o2, (((sl.stp ok s1).stp o1 a'.st).wipe _), iv, (show (ev P F Γ xt).g d (wipe (own.map (·.2)) ρ) S2 (fun ρ S => (ev P F Γ xc).t ρ S _ fun _ _ => False) fun _ _ => False from lp), fun σ2 ρ2 sl2 w2 w2' k2 => ⟨w2.trans (wipe_idem σ _ _ fun _ z => z), U2, S2, ρ2, _, _, o2, sl2, k2, fun b U3 S3 H3 s3 o3 qb => ?_, Px.none⟩⟩
    have a3 := a'.stp s3 o3
    cases b with
    | false => exact ⟨U3, S3, vs, acc, a3, qb⟩
    | true =>
      refine ⟨U3, S3, ρ2, _, _, o3, sl2.stp o2 s3, qb, fun y dy U4 S4 H4 s4 o4 m4 q4 => ?_, Px.none⟩
      have a4 := a3.stp s4 o4
      exact ⟨vs, a4.h, by rw [a4.l.length, ← sl_line]; exact q4.1, U4, S4, _, _, a4.push hD m4, q4.2⟩
  · rw [List.drop_length] at lp
    exact a.done hD s1 o1 po lp
theorem x_comp (hc : X.calm = true) (nd : X.N.Nodup) (blk : BlkOk X.N X.env.scope scope own) (hi : PI X tg iter (TI_ X.K ct W false raw (ev P F Γ xi).i))
    (hg : ∀ (s : Shared) (H : Hp) (C : Addr) (cl : List (Str × Addr)) (fp : List Addr), PG (X.blk s H scope (compEnvC scope cl C X.env) fp) tg (TGc X.K ct raw (own.map (·.2)) (ev P F Γ xt).g))
    (ht : ∀ (s : Shared) (H : Hp) (C : Addr) (cl : List (Str × Addr)) (fp : List Addr), PTs (X.blk s H scope (compEnvC scope cl C X.env) fp) ifs (TT_ X.K ct WF (ev P F Γ xc).t))
    (he : ∀ (s : Shared) (H : Hp) (C : Addr) (cl : List (Str × Addr)) (fp : List Addr), PE (X.blk s H scope (compEnvC scope cl C X.env) fp) elt (TE_ X.K ct WF .dn (ev P F Γ xe).e)) (hs : ∀ x, foldedSetIterable iter X.env x = pure x) :
    PE X (.ListComp elt [⟨tg, iter, ifs, 0⟩] scope pos) (TE_ X.K ct W m (ev P F Γ (.comp xt xi xc xe (own.map (·.2)))).e) :=
  PE.imp (pe_lc hc nd hi blk hg ht he hs) fun σ H Qv h => te_comp h
variable {tg1 iter1 : Expr} {ifs1 : List Expr} {xt1 xi1 xc1 : Ex} {own1 : List Nat} {raw1 : Bool}
theorem wipe_more (σ : L2.St) {own own' : List Nat} (h : ∀ i ∈ own', i ∈ own) {σ' σ'' : L2.St} (e : L2.wipe σ' own' = L2.wipe σ'' own') : L2.wipe σ' own = L2.wipe σ'' own := by
  rw [← wipe_idem σ' own' own h, ← wipe_idem σ'' own' own h, e]
theorem te_comp2 {σ : L2.St} {H : Hp} {Qv : VK} (h : TE_ X.K ct W m (ev P F Γ (.comp2 xt xi xc xt1 xi1 xc1 xe (own.map (·.2)) own1)).e σ H Qv) :
    tLc2 (TI_ X.K ct W false raw (ev P F Γ xi).i) (TGc X.K ct raw (own.map (·.2)) (ev P F Γ xt).g) (TT_ X.K ct WF (ev P F Γ xc).t) (TI_ X.K ct WF false raw1 (ev P F Γ xi1).i) (TGc X.K ct raw1 own1 (ev P F Γ xt1).g) (TT_ X.K ct WF (ev P F Γ xc1).t) (TE_ X.K ct WF .dn (ev P F Γ xe).e) (own.map (·.2)) own1 σ H Qv := by
  obtain ⟨U, S, ρ, Q, E, ok, sl, r, po, px⟩ := h
  refine ⟨U, S, ρ, _, E, ok, sl, r, fun J xs U1 S1 H1 s1 o1 wk q1 Dd hD => ?_, px⟩
  let inner : Env → List D → Store → QL → Prop := fun ρ acc S Q => (ev P F Γ xi1).i ρ S (fun ys S => loopC (fun d S k => (ev P F Γ xt1).g d (wipe own1 ρ) S k fun _ _ => False) (fun ρ S Q => (ev P F Γ xc1).t ρ S Q fun _ _ => False) (fun ρ S Q => (ev P F Γ xe).e ρ S Q fun _ _ => False) ys acc S Q) fun _ _ => False
  let loop : List D → List D → Store → Prop := fun ys acc S => loopC2 (fun d S k => (ev P F Γ xt).g d (wipe (own.map (·.2)) ρ) S k fun _ _ => False) (fun ρ S Q => (ev P F Γ xc).t ρ S Q fun _ _ => False) inner ys acc S fun ds S => Q (.lst ds) S
  have q1 : loop xs [] S1 := q1
  let Pv : Nat → Hp → Prop := fun i H => ∃ U S vs acc, LcSt X.K ct U1 H1 Dd U S H vs acc ∧ loop (xs.drop i) acc S
  refine ⟨fun i m H => m = xs.length - i ∧ i ≤ xs.length ∧ Pv i H, ⟨xs.length, by simp, Nat.zero_le _, _, S1, [], [], .start o1 hD, q1⟩, ?_⟩
  rintro i m Hi ⟨rfl, hi, U2, S2, vs, acc, a, lp⟩
  by_cases hlt : i < xs.length
  · refine .inr ⟨wk.goes i Hi hlt ⟨U2, a.st.q⟩, Pv (i + 1), fun H' p' => ⟨xs.length - (i + 1), by omega, rfl, hlt, p'⟩, fun x H' y => ?_⟩
    obtain ⟨d, hd, hy⟩ := wk.yields i Hi x H' hlt ⟨U2, a.st.q⟩ y
    obtain ⟨kp, o2, iv⟩ := (hy U2 S2 a.st.q a.ok).use a.ok
    have a' := a.stp kp.stp o2
    have e : xs.drop i = d :: xs.drop (i + 1) := by
      rw [List.drop_eq_getElem_cons hlt]
      rw [List.getElem?_eq_getElem hlt] at hd
      cases hd; rfl
    rw [e] at lp
    refine ⟨U2, S2, wipe (own.map (·.2)) ρ, d, _, _, o2, (((sl.stp ok s1).stp o1 a'.st).wipe _), iv, (show (ev P F Γ xt).g d (wipe (own.map (·.2)) ρ) S2 (fun ρ S => (ev P F Γ xc).t ρ S _ fun _ _ => False) fun _ _ => False from lp), fun σ2 ρ2 sl2 w2 w2' k2 => ⟨w2.trans (wipe_idem σ _ _ fun _ z => z), U2, S2, ρ2, _, _, o2, sl2, k2, fun b U3 S3 H3 s3 o3 qb => ?_, Px.none⟩⟩
    have a3 := a'.stp s3 o3
    have sl3 := sl2.stp o2 s3
    cases b with
    | false => exact ⟨U3, S3, vs, acc, a3, qb⟩
    | true =>
      -- the inner loop
      have qb : inner ρ2 acc S3 fun acc S => loop (xs.drop (i + 1)) acc S := qb
      refine ⟨U3, S3, ρ2, _, _, o3, sl3, qb, fun J1 ys U4 S4 H4 s4 o4 wk1 q4 => ?_, Px.none⟩
      have a4 := a3.stp s4 o4
      let loop1 : List D → List D → Store → Prop := fun ys acc S => loopC (fun d S k => (ev P F Γ xt1).g d (wipe own1 ρ2) S k fun _ _ => False) (fun ρ S Q => (ev P F Γ xc1).t ρ S Q fun _ _ => False) (fun ρ S Q => (ev P F Γ xe).e ρ S Q fun _ _ => False) ys acc S fun acc S => loop (xs.drop (i + 1)) acc S
      have q4 : loop1 ys acc S4 := q4
      let Pv1 : Nat → Hp → Prop := fun j H => ∃ U S vs acc, LcSt X.K ct U1 H1 Dd U S H vs acc ∧ Stq U4 H4 U H ∧ loop1 (ys.drop j) acc S
      refine ⟨fun j k H => k = ys.length - j ∧ j ≤ ys.length ∧ Pv1 j H, ⟨ys.length, by simp, Nat.zero_le _, U4, S4, vs, acc, a4, .refl, q4⟩, ?_⟩
      rintro j k Hj ⟨rfl, hj, U5, S5, vs5, acc5, a5, s5, lp5⟩
      by_cases hlt1 : j < ys.length
      · refine .inr ⟨wk1.goes j Hj hlt1 ⟨U5, s5⟩, Pv1 (j + 1), fun H' p' => ⟨ys.length - (j + 1), by omega, rfl, hlt1, p'⟩, fun x1 H6 y1 => ?_⟩
        obtain ⟨d1, hd1, hy1⟩ := wk1.yields j Hj x1 H6 hlt1 ⟨U5, s5⟩ y1
        obtain ⟨kp1, o6, iv1⟩ := (hy1 U5 S5 s5 a5.ok).use a5.ok
        have a6 := a5.stp kp1.stp o6
        have s6 : Stq U4 H4 U5 H6 := s5.trans a5.ok kp1.stp.q
        have e1 : ys.drop j = d1 :: ys.drop (j + 1) := by
          rw [List.drop_eq_getElem_cons hlt1]
          rw [List.getElem?_eq_getElem hlt1] at hd1
          cases hd1; rfl
        rw [e1] at lp5
        have sl6 : Sl X.K ct U5 H6 σ2 ρ2 := (sl3.stp o3 s4).stq o4 s6
        refine ⟨U5, S5, wipe own1 ρ2, d1, _, _, o6, sl6.wipe own1, iv1, (show (ev P F Γ xt1).g d1 (wipe own1 ρ2) S5 (fun ρ S => (ev P F Γ xc1).t ρ S _ fun _ _ => False) fun _ _ => False from lp5),
          fun σ3 ρ3 sl7 w3 w3' k3 => ⟨w3.trans (wipe_idem σ2 _ _ fun _ z => z), U5, S5, ρ3, _, _, o6, sl7, k3, fun b1 U7 S7 H7 s7 o7 qb1 => ?_, Px.none⟩⟩
        have a7 := a6.stp s7 o7
        have s7' := s6.trans o6 s7.q
        cases b1 with
        | false => exact ⟨U7, S7, vs5, acc5, a7, s7', qb1⟩
        | true =>
          refine ⟨U7, S7, ρ3, _, _, o7, sl7.stp o6 s7, qb1, fun y dy U8 S8 H8 s8 o8 m8 q8 => ?_, Px.none⟩
          have a8 := a7.stp s8 o8
          exact ⟨vs5, a8.h, by rw [a8.l.length, ← sl_line]; exact q8.1, U8, S8, _, _, a8.push hD m8, (s7'.trans o7 s8.q).trans o8 (Stq.push a8.k), q8.2⟩
      · have e1 : j = ys.length := by omega
        subst e1
        have lp5 : loop1 [] acc5 S5 := by rw [List.drop_length] at lp5; exact lp5
        exact .inl ⟨wk1.stops Hj ⟨U5, s5⟩, U5, S5, vs5, acc5, a5, lp5⟩
  · have e : i = xs.length := by omega
    subst e
    have lp : loop [] acc S2 := by rw [List.drop_length] at lp; exact lp
    exact .inl ⟨wk.stops Hi ⟨U2, a.st.q⟩, a.done hD s1 o1 po lp⟩
theorem x_comp2 (hc : X.calm = true) (nd : X.N.Nodup) (blk : BlkOk X.N X.env.scope scope own) (hv : ∀ i ∈ own1, i ∈ own.map (·.2)) (hi : PI X tg iter (TI_ X.K ct W false raw (ev P F Γ xi).i))
    (hg : ∀ (s : Shared) (H : Hp) (C : Addr) (cl : List (Str × Addr)) (fp : List Addr), PG (X.blk s H scope (compEnvC scope cl C X.env) fp) tg (TGc X.K ct raw (own.map (·.2)) (ev P F Γ xt).g))
    (ht : ∀ (s : Shared) (H : Hp) (C : Addr) (cl : List (Str × Addr)) (fp : List Addr), PTs (X.blk s H scope (compEnvC scope cl C X.env) fp) ifs (TT_ X.K ct WF (ev P F Γ xc).t))
    (hi1 : ∀ (s : Shared) (H : Hp) (C : Addr) (cl : List (Str × Addr)) (fp : List Addr), PI (X.blk s H scope (compEnvC scope cl C X.env) fp) tg1 iter1 (TI_ X.K ct WF false raw1 (ev P F Γ xi1).i))
    (hg1 : ∀ (s : Shared) (H : Hp) (C : Addr) (cl : List (Str × Addr)) (fp : List Addr), PG (X.blk s H scope (compEnvC scope cl C X.env) fp) tg1 (TGc X.K ct raw1 own1 (ev P F Γ xt1).g))
    (ht1 : ∀ (s : Shared) (H : Hp) (C : Addr) (cl : List (Str × Addr)) (fp : List Addr), PTs (X.blk s H scope (compEnvC scope cl C X.env) fp) ifs1 (TT_ X.K ct WF (ev P F Γ xc1).t))
    (he : ∀ (s : Shared) (H : Hp) (C : Addr) (cl : List (Str × Addr)) (fp : List Addr), PE (X.blk s H scope (compEnvC scope cl C X.env) fp) elt (TE_ X.K ct WF .dn (ev P F Γ xe).e)) (hs : ∀ x, foldedSetIterable iter X.env x = pure x) (hs1 : ∀ env x, foldedSetIterable iter1 env x = pure x) :
    PE X (.ListComp elt [⟨tg, iter, ifs, 0⟩, ⟨tg1, iter1, ifs1, 0⟩] scope pos) (TE_ X.K ct W m (ev P F Γ (.comp2 xt xi xc xt1 xi1 xc1 xe (own.map (·.2)) own1)).e) :=
  PE.imp (pe_lc2 hc nd hi blk hv hg ht hi1 hg1 ht1 he hs hs1) fun σ H Qv h => te_comp2 h
end
end Sb
set_option linter.all false
set_option maxRecDepth 20000
set_option maxHeartbeats 1000000
set_option autoImplicit false
/-! A12: calls. -/
namespace Sb
open PySem PySem.Spec PyProof.Rows L2
structure RoomG (k : Nat) (A : Around) : Prop where
  r : Room k A
  g : A.guards = some []
theorem RoomG.mono {j k : Nat} {A : Around} (h : RoomG k A) (l : j ≤ k) : RoomG j A := ⟨h.r.mono l, h.g⟩
theorem RoomG.deeper {k : Nat} {A : Around} (h : RoomG (k + 1) A) (env : PySem.Env) : RoomG k (A.deeper env) := ⟨h.r.deeper env, h.g⟩
theorem RoomG.in1 {k : Nat} {A : Around} (h : RoomG (k + 1) A) : RoomG k A.in1 := ⟨h.r.in1, h.g⟩
theorem noGuard {C : Addr} {us : List Value} {kw : List (Str × Value)} : Code.guards (.builtin "type.__call__" ⟨.ref C :: us, kw⟩) = [] := by
  unfold Code.guards
  rw [if_neg]
  intro h
  have h' : guardIds.contains "type.__call__" = true := h
  exact absurd h' (by decide)
theorem RoomG.make {k : Nat} {A : Around} (h : RoomG (k + 1) A) (C : Addr) (us : List Value) (kw : List (Str × Value)) : RoomG k (A.under (.builtin "type.__call__" ⟨.ref C :: us, kw⟩)) := by
  refine ⟨h.r.make C us kw, ?_⟩
  unfold Around.under
  rw [noGuard]
  exact h.g
/-- a def keeps sp -/
def FnG (P : Program) (w : World) (K : PySem.W.Frag) (mg : Str → Option Value) (base : Heap) (k : Nat) (f : Addr) (fd : FuncData) (ps : List Str) (sp : Sp) : Prop :=
  ∀ (A : Around) (outer : List PySem.Env) (s : Shared) (H : Hp) (args : Args) (us : List Value) (vs : List V) (Q : VK) (E : XK), RoomG k A → Env0 P w K mg base A outer s H → BindsTo s fd args (ps.zip us) → Vals vs us → sp vs H Q E →
    codeAny (model P w) A (.call (.ref f) args) (CR (L2.CX P w) outer P w H s Q E) s
/-- what a def's call answers for, by its meaning -/
def PxE (K : PySem.W.Frag) (ct : CT) (U : Um) (H : Hp) (E : QD) (E' : XK) : Prop := ∀ cls da x U' S' H', Stp U H U' H' → Ok K ct U' S' H' → Xn K ct U' H' cls da x → E x S' → E' cls da H'
def moR (b : Bool) : Mo := if b = true then .fr else .dn
def FSp (K : PySem.W.Frag) (ct : CT) (fresh : Bool) (sem : List D → Store → QD → QD → Prop) : Sp := fun vs H Qv E' => ∃ U S ds Q E, Ok K ct U S H ∧ Paired (fun d v => AnV K ct U H v d) ds vs ∧ sem ds S Q E ∧ Po K ct (moR fresh) U H Q Qv ∧ PxE K ct U H E E'
/-- how values come to the parameters -/
structure BindF (K : PySem.W.Frag) (ct : CT) (fd : FuncData) (ps : List Str) (dfl : List D) (n : Nat) (ks : List Str) (idx : List Nat) : Prop where
  ex : ∃ (dv : List V) (du : List Value), Vals dv du ∧ (∀ U H, DnL K ct U H dv dfl) ∧ ∀ (s : Shared) (us ws : List Value), K.In s.heap → us.length = n → ws.length = ks.length →
    ∃ full, bindK ps.length du (us ++ ws) idx = some full ∧ BindsTo s fd ⟨us, ks.zip ws⟩ (ps.zip full)
section
variable {α β : Type} {R : α → β → Prop}
theorem mapM_rel {γ : Type} {f : γ → Option α} {g : γ → Option β} (h : ∀ x a, f x = some a → ∃ b, g x = some b ∧ R a b) : ∀ (l : List γ) (as : List α), l.mapM f = some as → ∃ bs, l.mapM g = some bs ∧ Paired R as bs
  | [], as, e => by
    simp at e; subst e
    exact ⟨[], by simp, .nil⟩
  | x :: r, as, e => by
    rw [List.mapM_cons] at e
    cases q : f x with
    | none => rw [q] at e; simp at e
    | some a =>
      cases q2 : r.mapM f with
      | none => rw [q, q2] at e; simp at e
      | some as' =>
        rw [q, q2] at e
        simp at e
        subst e
        obtain ⟨b, h1, h2⟩ := h x a q
        obtain ⟨bs, h3, h4⟩ := mapM_rel h r as' q2
        exact ⟨b :: bs, by rw [List.mapM_cons, h1, h3]; rfl, .cons h2 h4⟩
theorem paired_get {as : List α} {bs : List β} (h : Paired R as bs) : ∀ (i : Nat) (a : α), as[i]? = some a → ∃ b, bs[i]? = some b ∧ R a b := by
  induction h with
  | nil => intro i a e; simp at e
  | cons h _ ih =>
    intro i a e
    cases i with
    | zero => simp at e; subst e; exact ⟨_, rfl, h⟩
    | succ i =>
      obtain ⟨b, h1, h2⟩ := ih i a (by simpa using e)
      exact ⟨b, by simpa using h1, h2⟩
theorem paired_len {as : List α} {bs : List β} (h : Paired R as bs) : as.length = bs.length := by
  induction h with
  | nil => rfl
  | cons _ _ ih => rw [List.length_cons, List.length_cons, ih]
theorem bindK_rel {np : Nat} {dfl ds : List α} {dfl' ds' : List β} {ks : List Nat} {as : List α} (h1 : Paired R dfl dfl') (h2 : Paired R ds ds') (e : bindK np dfl ds ks = some as) : ∃ bs, bindK np dfl' ds' ks = some bs ∧ Paired R as bs := by
  unfold bindK at e ⊢
  rw [paired_len h1, paired_len h2] at e
  refine mapM_rel (fun j a q => ?_) _ _ e
  split at q
  · rename_i hj
    rw [if_pos hj]
    exact paired_get h2 _ _ q
  · rename_i hj
    rw [if_neg hj]
    split at q
    · rename_i m hm
      exact paired_get h2 _ _ q
    · split at q
      · rename_i hj2
        rw [if_pos hj2]
        exact paired_get h1 _ _ q
      · cases q
end
section
variable {X : Cx} {ct : CT} {W : WX} {m : Mo} {P : Prog} {F : Fsem} {Γ : List Clo}
variable {es : List Expr} {kws : List Keyword} {xa xb : Ex} {pos p : Pos} {k : Nat} {f : Addr} {fd : FuncData} {ps ks : List Str} {sp : Sp}
/-- the call of a def, from here -/
def RunsF (X : Cx) (W : WX) (f : Addr) (fd : FuncData) (ps : List Str) (sp : Sp) : Prop := ∀ (pins : List (Addr × Obj)) (σ : L2.St) (H : Hp) (s : Shared) (Q : VK) (ks : List Str) (us ws full : List Value) (vs : List V), Inv X pins σ H s →
    BindsTo s fd ⟨us, ks.zip ws⟩ (ps.zip full) → Vals vs full → sp vs H Q (fun cls d H' => W cls d σ H') → wpAny (model X.prog X.w) X.A (call (.ref f) us (ks.zip ws)) (EP X pins σ Q) X.xe s
theorem run_fg (G : FnG X.prog X.w X.K X.mg X.base k f fd ps sp) (hr : RoomG k X.A) (tk : Takes X W) : RunsF X W f fd ps sp := by
  intro pins σ H s Q ks us ws full vs I hb r h
  refine wpAny_call (codeAny_mono (G X.A X.stack s H ⟨us, ks.zip ws⟩ full vs Q _ hr I.env0 hb r h) fun r s' hq => ?_)
  cases r with
  | error e => exact passAt tk σ pins H s e s' I hq
  | ok fl =>
    cases fl with
    | ret u => exact I.after hq
    | next => exact False.elim hq
    | brk => exact False.elim hq
    | cont => exact False.elim hq
/-- the keywords' values -/
theorem PK.imp {t t' : TA} (h : PK X kws t) (i : ∀ σ H Q, t' σ H Q → t σ H Q) : PK X kws t' := ⟨fun pos pins s σ H Q I q => h.run pos pins s σ H Q I (i σ H Q q)⟩
theorem k_nil : PK X [] (TA_ X.K ct W m 0 (ev P F Γ .nil).l) :=
  PK.imp pk_nil fun σ H Qv ⟨U, S, ρ, Q, E, ok, sl, r, po, px⟩ => po _ _ U S H rfl .refl ok .nil r
theorem k_cons {nm : Option Str} {a : Expr} {kp : Pos} (hm : m ≠ .fr) (ha : PE X a (TE_ X.K ct W m (ev P F Γ xa).e)) {n : Nat} (hb : PK X kws (TA_ X.K ct W m n (ev P F Γ xb).l)) : PK X (⟨nm, a, kp⟩ :: kws) (TA_ X.K ct W m (n + 1) (ev P F Γ (.cons xa xb)).l) :=
  PK.imp (pk_cons ha hb) fun σ H Qv ⟨U, S, ρ, Q, E, ok, sl, r, po, px⟩ =>
    ⟨U, S, ρ, _, E, ok, sl, r, fun v d U1 S1 H1 s1 o1 m1 q1 =>
      ⟨U1, S1, ρ, _, E, o1, sl.stp ok s1, q1, fun vs ds U2 S2 H2 hl s2 o2 m2 q2 => po _ _ U2 S2 H2 (by rw [List.length_cons, hl]) (s1.trans o1 s2) o2
        (.cons (m1.stp hm o1 s2) (fun e z j e' hj hv => by
          subst z
          obtain ⟨p, xs, rfl, _, _, h3, _⟩ := m1.own
          obtain ⟨v', h4, h5⟩ := m2.get j hj
          obtain ⟨p', xs', rfl, h6, _⟩ := h5.own
          rw [hv] at h4
          cases h4
          rw [h3] at h6; cases h6) (m2.back s1 o1)) q2, px.stp s1 o1⟩, px⟩
theorem MdL.an {S' : Store} {U' : Um} {H H' : Hp} : ∀ {vs : List V} {ds : List D}, MdL X.K ct .an H U' S' H' vs ds → Paired (fun d v => AnV X.K ct U' H' v d) ds vs
  | _, _, .nil => .nil
  | _, _, .cons h _ t => .cons h (MdL.an t)
theorem an_stp {S : Store} {U U' : Um} {H H' : Hp} (o : Ok X.K ct U S H) (s : Stp U H U' H') {vs : List V} {ds : List D} (h : Paired (fun d v => AnV X.K ct U H v d) ds vs) : Paired (fun d v => AnV X.K ct U' H' v d) ds vs := by
  induction h with
  | nil => exact .nil
  | cons h _ ih => exact .cons (Md.stp (m := .an) (H0 := H) (S := S) (S1 := S) h (by decide) o s) ih
theorem paired_app {α β : Type} {R : α → β → Prop} {as as' : List α} {bs bs' : List β} (h : Paired R as bs) (h' : Paired R as' bs') : Paired R (as ++ as') (bs ++ bs') := by
  induction h with
  | nil => exact h'
  | cons h _ ih => exact .cons h ih
theorem paired_imp {α β : Type} {R R' : α → β → Prop} (i : ∀ a b, R a b → R' a b) {as : List α} {bs : List β} (h : Paired R as bs) : Paired R' as bs := by
  induction h with
  | nil => exact .nil
  | cons h _ ih => exact .cons (i _ _ h) ih
theorem paired_flip {α β : Type} {R : α → β → Prop} {as : List α} {bs : List β} (h : Paired R as bs) : Paired (fun b a => R a b) bs as := by
  induction h with
  | nil => exact .nil
  | cons h _ ih => exact .cons h ih
theorem DnL.anP {U : Um} {H : Hp} : ∀ {vs : List V} {ds : List D}, DnL X.K ct U H vs ds → Paired (fun d v => AnV X.K ct U H v d) ds vs
  | _, _, .nil => .nil
  | _, _, .cons h t => .cons (.of h) (DnL.anP t)
/-- what a call answers, from what its arguments are -/
theorem call_step {n : Nat} {idx : List Nat} {dfl args : List D} {fresh : Bool} {sem : List D → Store → QD → QD → Prop} {U : Um} {S : Store} {H : Hp} {ds es : List D} {vs zs : List V} {Q : QD} {E : QD} {Qv : VK}
    (G : RunsF X W f fd ps (FSp X.K ct fresh sem)) (B : BindF X.K ct fd ps dfl n ks idx) (hn : vs.length = n) (hz : zs.length = ks.length)
    (ok : Ok X.K ct U S H) (h1 : Paired (fun d v => AnV X.K ct U H v d) ds vs) (h2 : Paired (fun d v => AnV X.K ct U H v d) es zs) (hb : bindK ps.length dfl (ds ++ es) idx = some args) (hs : sem args S Q E)
    {pins : List (Addr × Obj)} {σ : L2.St} {s : Shared} {us ws : List Value} (I : Inv X pins σ H s) (r1 : Vals vs us) (r2 : Vals zs ws) (po : Po X.K ct (moR fresh) U H Q Qv) (px : Px X.K ct W U H E σ) :
    wpAny (model X.prog X.w) X.A (call (.ref f) us (ks.zip ws)) (EP X pins σ Qv) X.xe s := by
  obtain ⟨dv, du, hdv, hdn, hbind⟩ := B.ex
  obtain ⟨full, e1, e2⟩ := hbind s us ws I.kIn (by rw [← hn, r1.length]) (by rw [← hz, r2.length])
  obtain ⟨vfull, e3, e4⟩ := bindK_rel (hdn U H).anP (paired_app h1 h2) hb
  obtain ⟨full', e5, e6⟩ := bindK_rel (R := RelV) hdv (paired_app r1 r2) e3
  rw [e1] at e5
  cases e5
  exact G _ _ _ _ _ _ _ _ _ _ I e2 e6 ⟨U, S, args, Q, E, ok, e4, hs, po, fun cls da x U' S' H' s' o' xn q => px cls da x U' S' H' s' o' xn q⟩
end
end Sb
set_option linter.all false
set_option maxRecDepth 20000
set_option maxHeartbeats 1000000
set_option autoImplicit false
/-! A13: calls of defs, attributes, instances. -/
namespace Sb
open PySem PySem.Spec PyProof.Rows L2
/-- the defs as they stand at a level -/
structure FAll (X : Cx) (ct : CT) (P : Prog) (F : Fsem) (Γ : List Clo) (k : Nat) (fdm : Nat → FuncData) (pat : List (Nat × Nat × List Str × List Nat)) : Prop where
  fn : ∀ f fn, P.fns[f]? = some fn → (fn.names.take fn.np).length = fn.np ∧ FnG X.prog X.w X.K X.mg X.base k (ct.fa f) (fdm f) (fn.names.take fn.np) (FSp X.K ct fn.fresh fun args S Q E => F Γ f args S Q E)
  no : ∀ f args S Q E, P.fns[f]? = none → ¬ F Γ f args S Q E
  pt : ∀ f n ks idx fn, (f, n, ks, idx) ∈ pat → P.fns[f]? = some fn → BindF X.K ct (fdm f) (fn.names.take fn.np) fn.dfl n ks idx
section
variable {X : Cx} {ct : CT} {W : WX} {m : Mo} {P : Prog} {F : Fsem} {Γ : List Clo} {k : Nat} {fdm : Nat → FuncData} {pat : List (Nat × Nat × List Str × List Nat)}
variable {es : List Expr} {kws : List Keyword} {xa xb : Ex} {pos p : Pos} {ks : List Str} {idx : List Nat} {a : Expr}
theorem moR_ok {fresh : Bool} {S' : Store} {U' : Um} {H H' : Hp} {v : V} {d : D} (h : Md X.K ct (moR fresh) H U' S' H' v d) (hm : m ≠ .fr ∨ fresh = true) : Md X.K ct m H U' S' H' v d := by
  cases fresh with
  | true => exact .ofFr h
  | false => exact .ofDn h (by rcases hm with h | h; exact h; cases h)
theorem Po.moR {fresh : Bool} {U : Um} {H : Hp} {Q : QD} {Qv : VK} (po : Po X.K ct m U H Q Qv) (hm : m ≠ .fr ∨ fresh = true) : Po X.K ct (moR fresh) U H Q Qv := fun v d U' S' H' s o md q => po v d U' S' H' s o (moR_ok md hm) q
/-- all of a call's values have come -/
def Ready (X : Cx) (ct : CT) (W : WX) (m : Mo) (n nk : Nat) (sem : List D → Store → QD → QD → Prop) (σ : L2.St) (Qv : VK) (vs zs : List V) (H : Hp) : Prop :=
  ∃ U S ds es Q E, vs.length = n ∧ zs.length = nk ∧ Ok X.K ct U S H ∧ Paired (fun d v => AnV X.K ct U H v d) ds vs ∧ Paired (fun d v => AnV X.K ct U H v d) es zs ∧ sem (ds ++ es) S Q E ∧ Po X.K ct m U H Q Qv ∧ Px X.K ct W U H E σ
theorem ready_args {n nk : Nat} {sem : List D → Store → QD → QD → Prop} {σ : L2.St} {H : Hp} {Qv : VK}
    (h : TE_ X.K ct W m (fun ρ S Q E => (ev P F Γ xa).l ρ S (fun ds S => (ev P F Γ xb).l ρ S (fun es S => es.length = idx.length ∧ sem (ds ++ es) S Q E) E) E) σ H Qv) :
    TA_ X.K ct W .an n (ev P F Γ xa).l σ H fun vs H1 => TA_ X.K ct W .an nk (ev P F Γ xb).l σ H1 fun zs H2 => Ready X ct W m n nk sem σ Qv vs zs H2 := by
  obtain ⟨U, S, ρ, Q, E, ok, sl, r, po, px⟩ := h
  exact ⟨U, S, ρ, _, E, ok, sl, r, fun vs ds U1 S1 H1 l1 s1 o1 m1 q1 => ⟨U1, S1, ρ, _, E, o1, sl.stp ok s1, q1, fun zs es U2 S2 H2 l2 s2 o2 m2 q2 =>
    ⟨U2, S2, ds, es, Q, E, l1, l2, o2, an_stp o1 s2 m1.an, m2.an, q2.2, (po.stp s1 o1).stp s2 o2, (px.stp s1 o1).stp s2 o2⟩, px.stp s1 o1⟩, px⟩
/-- the arguments run, then the call -/
theorem args_run {f : Value} {first : List Value} {sem : List D → Store → QD → QD → Prop} {σ : L2.St} {H : Hp} {Qv : VK} {pins : List (Addr × Obj)} {s : Shared} (I : Inv X pins σ H s) (hk : PySem.W.keepIn X.K f = true)
    (hall : (backToKw pos (keywordEach kws X.env)).all (·.1.isSome) = true) (hks : (backToKw pos (keywordEach kws X.env)).filterMap (·.1) = ks)
    (hpl : ((backTo pos (starEach es X.env)).any (·.1) || (backToKw pos (keywordEach kws X.env)).any (·.1.isNone)) = false) (hn : es = [] → xa = .nil) (he : ∀ e r, es = e :: r → starEach es X.env = (false, eval e X.env) :: starEach r X.env)
    (ha : PA X es (TA_ X.K ct W .an es.length (ev P F Γ xa).l)) (hkw : PK X kws (TA_ X.K ct W .an kws.length (ev P F Γ xb).l))
    (h : TE_ X.K ct W m (fun ρ S Q E => (ev P F Γ xa).l ρ S (fun ds S => (ev P F Γ xb).l ρ S (fun es S => es.length = idx.length ∧ sem (ds ++ es) S Q E) E) E) σ H Qv)
    (hc : ∀ us ws vs zs H2 s2, Inv X pins σ H2 s2 → Vals vs us → Vals zs ws → Ready X ct W m es.length kws.length sem σ Qv vs zs H2 → wpAny (model X.prog X.w) X.A (call f (first ++ us) (ks.zip ws)) (EP X pins σ Qv) X.xe s2) :
    wpAny (model X.prog X.w) X.A (callWith pos f first (backTo pos (starEach es X.env)) (backToKw pos (keywordEach kws X.env))) (EP X pins σ Qv) X.xe s := by
  have h' := ready_args (n := es.length) (nk := kws.length) h
  cases es with
  | nil =>
    have h2 : TA_ X.K ct W .an kws.length (ev P F Γ xb).l σ H fun zs H2 => Ready X ct W m 0 kws.length sem σ Qv [] zs H2 := by
      have hx := hn rfl
      subst hx
      obtain ⟨U, S, ρ, Q, E, ok, sl, r, po, px⟩ := h
      exact ⟨U, S, ρ, _, E, ok, sl, r, fun zs es U2 S2 H2 l2 s2 o2 m2 q2 => ⟨U2, S2, [], es, Q, E, rfl, l2, o2, .nil, m2.an, q2.2, po.stp s2 o2, px.stp s2 o2⟩, px⟩
    refine PySem.W.callWith_KW0 (h₀ := X.base) I.ok.mod.kin hk hall (thn (hkw.run pos pins s σ H _ I h2) fun ws s2 ⟨zs, H2, I2, rz, q⟩ => ⟨I2.kIn, ?_⟩) hpl
    rw [hks]
    exact hc [] ws [] zs H2 s2 I2 .nil rz q
  | cons e es =>
    refine PySem.W.callWith_KW (h₀ := X.base) I.ok.mod.kin hk hall (thn (ha.run pos pins s σ H _ I h') fun us s1 ⟨vs, H1, I1, r1, q1⟩ => ?_) hpl (he e es rfl)
    refine thn (hkw.run pos pins s1 σ H1 _ I1 q1) fun ws s2 ⟨zs, H2, I2, rz, q2⟩ => ⟨I2.kIn, ?_⟩
    rw [hks]
    exact hc us ws vs zs H2 s2 I2 r1 rz q2
theorem callD_ok {f : Nat} {ds : List D} {S : Store} {Q E : QD} (h : callD P F Γ f idx ds S Q E) : ∃ fn args, P.fns[f]? = some fn ∧ bindK fn.np fn.dfl ds idx = some args ∧ F Γ f args S Q E := by
  unfold callD at h
  cases e : P.fns[f]? with
  | none => rw [e] at h; exact h.elim
  | some fn =>
    rw [e] at h
    cases e2 : bindK fn.np fn.dfl ds idx with
    | none => simp only [e2] at h
    | some args =>
      simp only [e2] at h
      exact ⟨fn, args, rfl, e2, h⟩
theorem x_call {f : Nat} {fn : Fn} {x : Str} (hfn : P.fns[f]? = some fn) (hnp : (fn.names.take fn.np).length = fn.np) (G : RunsF X W (ct.fa f) (fdm f) (fn.names.take fn.np) (FSp X.K ct fn.fresh fun args S Q E => F Γ f args S Q E)) (B : BindF X.K ct (fdm f) (fn.names.take fn.np) fn.dfl es.length ks idx) (hkl : ks.length = kws.length) (hg : Gl X x) (hm : X.mg x = some (.ref (ct.fa f))) (hk : PySem.W.keepIn X.K (.ref (ct.fa f)) = true)
    (hmr : m ≠ .fr ∨ fn.fresh = true) (hdb : (x == ("__debug__" : Str)) = false)
    (hall : (backToKw pos (keywordEach kws X.env)).all (·.1.isSome) = true) (hks : (backToKw pos (keywordEach kws X.env)).filterMap (·.1) = ks)
    (hpl : ((backTo pos (starEach es X.env)).any (·.1) || (backToKw pos (keywordEach kws X.env)).any (·.1.isNone)) = false) (hn : es = [] → xa = .nil) (he : ∀ e r, es = e :: r → starEach es X.env = (false, eval e X.env) :: starEach r X.env)
    (ha : PA X es (TA_ X.K ct W .an es.length (ev P F Γ xa).l)) (hkw : PK X kws (TA_ X.K ct W .an kws.length (ev P F Γ xb).l)) :
    PE X (.Call (.Name x p) es kws pos) (TE_ X.K ct W m (ev P F Γ (.call f xa xb idx)).e) := by
  refine ⟨fun pins s σ H Qv I h => ?_⟩
  refine wpAny_Call_Name_kw (ld_glob I hg hm ?_ hdb)
  refine args_run (first := []) (sem := fun ds S Q E => callD P F Γ f idx ds S Q E) I hk hall hks hpl hn he ha hkw h fun us ws vs zs H2 s2 I2 r1 r2 rd => ?_
  obtain ⟨U, S, ds, es', Q, E, l1, l2, o2, p1, p2, q, po, px⟩ := rd
  obtain ⟨fn', args, e1, e2, e3⟩ := callD_ok q
  rw [hfn] at e1; cases e1
  exact call_step G B l1 (l2.trans hkl.symm) o2 p1 p2 (by rw [hnp]; exact e2) e3 I2 r1 r2 (po.moR hmr) px
/-! ### own lists, lists of the store -/
theorem x_mkown (ha : PE X a (TE_ X.K ct W .fr (ev P F Γ xa).e)) : PE X a (TE_ X.K ct W .ow (ev P F Γ (.mkown xa)).e) :=
  PE.imp ha fun σ H Qv ⟨U, S, ρ, Q, E, ok, sl, r, po, px⟩ =>
    ⟨U, S, ρ, _, E, ok, sl, r, fun v d U1 S1 H1 s1 o1 m1 q1 => by
      cases d with
      | lst ds =>
        obtain ⟨p, xs, rfl, h1, h2, h3, h4, h5⟩ := FrS.lst m1 ds rfl
        exact po _ _ (U1.set p .ow) S1 H1 (s1.setNew h1) h5 (show OwV X.K ct H (U1.set p .ow) H1 (.ref p) (.own ds) from OwV.own h1 Um.set_same h2 h4) q1
      | _ => exact q1.elim, px⟩
theorem Ok.box {U : Um} {S : Store} {H : Hp} {p : Addr} {xs : List V} {ds : List D} (o : Ok X.K ct (U.set p .ow) S H) (h : H p = some (.lst xs)) (l : DnL X.K ct (U.set p .ow) H xs ds) : Ok X.K ct (U.set p .ce) (S.put p (.lst ds)) H ∧ S p = none := by
  have hk : U.set p .ow p = .ow := Um.set_same
  have st : StW (U.set p .ow) H (U.set p .ce) H := by
    have := StW.rek (U := U.set p .ow) (H := H) (p := p) (k := .ce) (.inl (by rw [hk]; decide))
    rwa [Um.set_set] at this
  have kc : ∀ a, U.set p .ow a = .ce → U.set p .ce a = .ce := fun a ha => by
    by_cases z : a = p
    · rw [z, Um.set_same]
    · rw [Um.set_ne z] at ha ⊢; exact ha
  have sp : S p = none := by
    cases q : S p with
    | none => rfl
    | some c =>
      have := (o.ce p).mpr (by rw [q]; simp)
      rw [hk] at this; cases this
  refine ⟨⟨fun a => ?_, fun a c e => ?_, fun a ha => ?_, fun q hq => (o.tab q hq).st (fun _ q => q) st⟩, sp⟩
  · by_cases z : a = p
    · rw [z, Um.set_same]; simp [Store.put]
    · rw [Um.set_ne z]
      have := o.ce a
      rw [Um.set_ne z] at this
      simpa [Store.put, z] using this
  · by_cases z : a = p
    · subst z
      simp [Store.put] at e
      subst e
      exact ⟨xs, h, l.st st kc⟩
    · simp [Store.put, z] at e
      exact (o.cell a c e).st (fun _ q => q) st kc
  · by_cases z : a = p
    · rw [z, h]; simp
    · exact o.there a (by rw [Um.set_ne z] at ha ⊢; exact ha)
theorem x_box (hm : m ≠ .fr) (ha : PE X a (TE_ X.K ct W .fr (ev P F Γ xa).e)) : PE X a (TE_ X.K ct W m (ev P F Γ (.box xa)).e) :=
  PE.imp ha fun σ H Qv ⟨U, S, ρ, Q, E, ok, sl, r, po, px⟩ =>
    ⟨U, S, ρ, _, E, ok, sl, r, fun v d U1 S1 H1 s1 o1 m1 q1 => by
      cases d with
      | lst ds =>
        obtain ⟨p, xs, rfl, h1, h2, h3, h4, h5⟩ := FrS.lst m1 ds rfl
        obtain ⟨o2, sp⟩ := Ok.box h5 h2 h4
        exact po _ (.ptr p) (U1.set p .ce) _ H1 (s1.setNew h1) o2 (.ofDn (.ptr Um.set_same) hm) (q1 p sp)
      | _ => exact q1.elim, px⟩
end
/-! ### attributes -/
/-- what isinstance asks of a class -/
structure IsF (K : PySem.W.Frag) (C : Addr) : Prop where
  ha : PySem.W.findIn K (.ref C) "__class__" = some (some (.builtin "object.__class__"))
  hn : PySem.W.specialIn K (.builtin "object.__class__") "__get__" = some (some (.builtin "getset_descriptor.__get__"))
  htk : PySem.W.takesIn K (.builtin "object.__class__") = some true
  hm : PySem.W.mroIn K C (.type "object") = some true
/-- what a class says -/
structure ClF (K : PySem.W.Frag) (ct : CT) (ats : List Str) (c : Nat) (cl : Cl) : Prop where
  cls : Cls K (ct.ad c)
  isf : IsF K (ct.ad c)
  nd : (ct.fl c).Nodup
  nf : (ct.fl c).length = cl.nf
  sm : cl.nf < 1000
  fld : ∀ n i, cl.at n = some (.fld i) → ∃ f, ats[n]? = some f ∧ (ct.fl c)[i]? = some f ∧ NoAttr K (ct.ad c) f
  prop : ∀ n f, cl.at n = some (.prop f) → ∃ nm p, ats[n]? = some nm ∧ PropOf K (ct.ad c) nm p (ct.fa f)
  mk_ : Mk K (ct.ad c) (ct.fa cl.init)
  len_ : ∀ f, cl.len = some f → PySem.W.findIn K (.ref (ct.ad c)) "__len__" = some (some (.ref (ct.fa f))) ∧ PySem.W.typeIn K (.ref (ct.fa f)) = some (.type "function")
  str_ : ∀ f, cl.str = some f → PySem.W.findIn K (.ref (ct.ad c)) "__str__" = some (some (.ref (ct.fa f))) ∧ PySem.W.typeIn K (.ref (ct.fa f)) = some (.type "function")
  has_ : ∀ f, cl.has = some f → PySem.W.findIn K (.ref (ct.ad c)) "__contains__" = some (some (.ref (ct.fa f))) ∧ PySem.W.typeIn K (.ref (ct.fa f)) = some (.type "function")
  tru_ : ∀ f, cl.tru = some f → PySem.W.findIn K (.ref (ct.ad c)) "__bool__" = some (some (.ref (ct.fa f))) ∧ PySem.W.typeIn K (.ref (ct.fa f)) = some (.type "function")
  eq_ : ∀ f, cl.eq = some f → PySem.W.findIn K (.ref (ct.ad c)) "__eq__" = some (some (.ref (ct.fa f))) ∧ PySem.W.typeIn K (.ref (ct.fa f)) = some (.type "function") ∧ PySem.W.findIn K (.ref (ct.ad c)) "__ne__" = some (some (.builtin "object.__ne__"))
section
variable {X : Cx} {ct : CT} {W : WX} {m : Mo} {P : Prog} {F : Fsem} {Γ : List Clo} {k : Nat} {fdm : Nat → FuncData} {pat : List (Nat × Nat × List Str × List Nat)} {ats : List Str}
variable {es : List Expr} {kws : List Keyword} {xa xb : Ex} {pos p : Pos} {ks : List Str} {idx : List Nat} {a : Expr}
theorem zip_lookup {α : Type} : ∀ {fl : List Str} {xs : List α} {i : Nat} {f : Str} {v : α}, fl.Nodup → fl[i]? = some f → xs[i]? = some v → (fl.zip xs).lookup f = some v
  | [], _, i, _, _, _, h, _ => by simp at h
  | _ :: _, [], i, _, _, _, _, h => by simp at h
  | g :: fl, x :: xs, 0, f, v, _, h1, h2 => by
    simp at h1 h2; subst h1; subst h2
    simp
  | g :: fl, x :: xs, i + 1, f, v, nd, h1, h2 => by
    have hne : ¬ (f == g) = true := fun z => by
      have z : f = g := by simpa using z
      have := List.mem_of_getElem? (show fl[i]? = some f by simpa using h1)
      exact (List.nodup_cons.mp nd).1 (z ▸ this)
    show List.lookup f ((g, x) :: fl.zip xs) = _
    rw [List.lookup_cons]
    simp only [hne]
    exact zip_lookup (List.nodup_cons.mp nd).2 (by simpa using h1) (by simpa using h2)
/-- an instance, of the store or not -/
theorem inst_at {U : Um} {S : Store} {H : Hp} {v : V} {d : D} {c : Nat} {fs : List D} (o : Ok X.K ct U S H) (h : Bn X.K ct U H v d) (e : clsOf d S = some (c, fs)) : ∃ q dx xs, v = .ref q ∧ H q = some (.ins (ct.ad c) dx ((ct.fl c).zip xs)) ∧ DnL X.K ct U H xs fs := by
  cases d with
  | obj c' fs' =>
    cases e
    cases h with
    | of h => cases h with
      | obj k hp hl l => exact ⟨_, _, _, rfl, hp, l⟩
  | ptr q =>
    unfold clsOf at e
    cases q2 : S q with
    | none => simp only [q2] at e; cases e
    | some cell =>
      cases cell with
      | ins c' fs' =>
        simp only [q2] at e; cases e
        cases h with
        | of h => cases h with
          | ptr k =>
            obtain ⟨dx, xs, h1, h2, h3⟩ := o.cell q _ q2
            exact ⟨q, dx, xs, rfl, h1, h3⟩
      | _ => simp only [q2] at e; cases e
  | _ => cases e
/-- a property's getter -/
theorem getprop_g {pins : List (Addr × Obj)} {σ : L2.St} {H : Hp} {s : Shared} {Q : VK} {b : Bool} {E' : Value → Shared → Prop} {C q dx p g : Addr} {fs : List (Str × V)} {f : Str} {fd : FuncData} {ps : List Str} {sp : Sp} (I : Inv X pins σ H s) (ea : H q = some (.ins C dx fs)) (c : Cls X.K C) (hp : PropOf X.K C f p g)
    (G : FnG X.prog X.w X.K X.mg X.base k g fd ps sp) (hr : RoomG (k + 1) X.A) (hb : ∀ s : Shared, X.K.In s.heap → BindsTo s fd ⟨[.ref q], []⟩ (ps.zip [.ref q])) (h : sp [.ref q] H Q fun _ _ _ => False) :
    wpAny (model X.prog X.w) X.A (getAttr (.ref q) f b) (EP X pins σ Q) E' s := by
  obtain ⟨mA, O, _, _, _, _⟩ := ins_get I.hok ea
  obtain ⟨od, J, _⟩ := O.look
  obtain ⟨rest, hrec⟩ := hp.rec_
  have I1 := I.tok (s.toks + 1)
  have hc : (PySem.W.clsIn X.K C).isSome = true := by
    obtain ⟨cd, hc, _⟩ := PySem.W.any_some c.hd
    rw [hc]
    rfl
  refine PySem.W.get_bind I.kIn J (PySem.W.plainGet_of (c.get f)).1 (PySem.W.findObj_data hc hp.at_ hp.get hp.tak) (PySem.W.plainGet_of (c.get f)).2 (wpAny_call (PySem.W.prop_get (s := { s with toks := s.toks + 1 }) I.kIn hrec ?_))
  refine codeAny_mono (G X.A.in1 X.stack { s with toks := s.toks + 1 } H ⟨[.ref q], []⟩ [.ref q] [.ref q] Q _ hr.in1 I1.env0.in1 (hb _ I1.kIn) (.cons rfl .nil) h) fun r s' hq => ?_
  cases r with
  | error er =>
    obtain ⟨_, _, _, _, _, _, _, _, _, _, _, _, _, z⟩ := hq
  | ok fl =>
    cases fl with
    | ret u =>
      obtain ⟨v, H', I3, rv, q3⟩ := I1.after hq
      show wpAny _ _ (handedOut u) _ _ _
      rw [PySem.W.handedOut_of (handed_of rv)]
      exact wpAny_pure ⟨v, H', I3, rv, q3⟩
    | next => exact False.elim hq
    | brk => exact False.elim hq
    | cont => exact False.elim hq
/-- a call with one value and no default -/
theorem bind1 {fd : FuncData} {ps : List Str} {dfl : List D} {n : Nat} {s : Shared} {u : Value} (B : BindF X.K ct fd ps dfl 1 [] []) (hl : ps.length = 1) (KI : X.K.In s.heap) : BindsTo s fd ⟨[u], []⟩ (ps.zip [u]) := by
  obtain ⟨dv, du, _, _, h⟩ := B.ex
  obtain ⟨full, e1, e2⟩ := h s [u] [] KI rfl rfl
  have : full = [u] := by
    rw [hl] at e1
    have : bindK 1 du [u] [] = some [u] := by
      simp [bindK, List.range_succ]
    rw [List.append_nil, this] at e1
    exact (Option.some.inj e1).symm
  rw [this] at e2
  exact e2
theorem x_attr {n : Nat} {f : Str} (hm : m ≠ .fr) (hat : ats[n]? = some f) (CF : ∀ c cl, P.cls[c]? = some cl → ClF X.K ct ats c cl) (FA : FAll X ct P F Γ k fdm pat) (hpat : ∀ (c : Nat) (cl : Cl) (f : Nat) (fn : Fn), P.cls[c]? = some cl → cl.at n = some (.prop f) → P.fns[f]? = some fn → (f, 1, [], []) ∈ pat ∧ fn.np = 1 ∧ fn.fresh = false) (hr : RoomG (k + 1) X.A)
    (hb : attributeBase a f X.env (eval a X.env) = eval a X.env) (ha : PE X a (TE_ X.K ct W .bn (ev P F Γ xa).e)) : PE X (.Attribute a f pos) (TE_ X.K ct W m (ev P F Γ (.attr xa n)).e) := by
  refine ⟨fun pins s σ H Qv I ⟨U, S, ρ, Q, E, ok, sl, r, po, px⟩ => ?_⟩
  refine attr_of hb (thn (ha.run pins s σ H (fun v H1 => ∃ U1 S1 d, Stp U H U1 H1 ∧ Ok X.K ct U1 S1 H1 ∧ Bn X.K ct U1 H1 v d ∧ attrD P F Γ n d S1 Q E) I ⟨U, S, ρ, _, E, ok, sl, r, fun v d U1 S1 H1 s1 o1 m1 q1 => ⟨U1, S1, d, s1, o1, m1, q1⟩, px⟩) fun u s1 ⟨x, H1, I1, rx, U1, S1, d, t1, o1, b1, q1⟩ => ?_)
  unfold attrD at q1
  cases ec : clsOf d S1 with
  | none => simp only [ec] at q1
  | some cf =>
    obtain ⟨c, fs⟩ := cf
    simp only [ec] at q1
    obtain ⟨q, dx, xs, rfl, hq, l⟩ := inst_at o1 b1 ec
    cases rx
    cases hcl : P.cls[c]? with
    | none => simp only [hcl] at q1
    | some cl =>
      simp only [hcl] at q1
      have cf := CF c cl hcl
      cases hn : cl.at n with
      | none => simp only [hn] at q1
      | some at_ =>
        simp only [hn] at q1
        cases at_ with
        | fld i =>
          simp only at q1
          cases hi : fs[i]? with
          | none => simp only [hi] at q1
          | some dv =>
            simp only [hi] at q1
            obtain ⟨f', e1, e2, na⟩ := cf.fld n i hn
            rw [hat] at e1; cases e1
            obtain ⟨vv, e3, dn⟩ := l.get i hi
            exact getattr_ok I1 hq cf.cls na (zip_lookup cf.nd e2 e3) fun u' s2 I2 ru => ⟨vv, H1, I2, ru, po _ _ U1 S1 H1 t1 o1 (.ofDn dn hm) q1⟩
        | prop g =>
          simp only at q1
          obtain ⟨f', pa, e1, hpr⟩ := cf.prop n g hn
          rw [hat] at e1; cases e1
          cases hg : P.fns[g]? with
          | none => exact (FA.no g _ _ _ _ hg q1).elim
          | some fn =>
            obtain ⟨hp1, hp2, hp3⟩ := hpat c cl g fn hcl hn hg
            obtain ⟨hnp, G⟩ := FA.fn g fn hg
            refine getprop_g I1 hq cf.cls hpr G hr (fun s KI => bind1 (n := 0) (FA.pt g _ _ _ fn hp1 hg) (by rw [hnp, hp2]) KI) ⟨U1, S1, [d], Q, _, o1, .cons ?_ .nil, q1, by rw [hp3]; exact ((po.stp t1 o1).moR (fresh := false) (.inl hm)), fun _ _ _ _ _ _ _ _ _ h => h.elim⟩
            cases b1 with
            | of h => exact .of h
            | lst _ _ _ => cases ec
        | meth g => simp only at q1
end
end Sb
set_option linter.all false
set_option maxRecDepth 20000
set_option maxHeartbeats 1000000
set_option autoImplicit false
/-! A14: len of an own class; instances made. -/
namespace Sb
open PySem PySem.Spec PyProof.Rows L2
section
variable {X : Cx} {ct : CT} {W : WX} {m : Mo} {P : Prog} {F : Fsem} {Γ : List Clo} {k : Nat} {fdm : Nat → FuncData} {pat : List (Nat × Nat × List Str × List Nat)} {ats : List Str}
/-- an own special method of an instance -/
theorem own_special {M : Model} {A : Around} {E : Value → Shared → Prop} {K : PySem.W.Frag} {s : Shared} {q C g : Addr} {o : Obj} {name : Str} {args : List Value} {Q : Option Value → Shared → Prop} (X : K.In s.heap) (ho : s.heap.get? q = some o) (hc : o.cls = .ref C)
    (hf : PySem.W.findIn K (.ref C) name = some (some (.ref g))) (hfn : PySem.W.typeIn K (.ref g) = some (.type "function")) (h : wpAny M A (call (.ref g) (.ref q :: args)) (fun v => Q (some v)) E s) : wpAny M A (callSpecial? (.ref q) name args) Q E s := by
  have sp : PySem.W.Looks M s.heap (specialOf (.ref q) name) (some (.ref g)) := (NwA.type_at ho hc).andThen (PySem.W.looks_findIn X hf)
  simp only [callSpecial?]
  refine wpAny_bind (sp.here ?_)
  refine wpAny_holding (wpAny_bind ((PySem.W.bind_fn X (.ref q) hfn).here (wpAny_bind ?_)))
  exact wpAny_mono h (fun v s' h' => wpAny_pure h') fun _ _ h' => h'
theorem len_own {A : Around} {prog : Program} {w : World} {E : Value → Shared → Prop} {s : Shared} {q : Addr} {Q : Value → Shared → Prop}
    (h : wpAny (model prog w) A.in1 (callSpecial? (.ref q) "__len__") (fun r s' => ∃ i t, r = some (.int i t) ∧ 0 ≤ i ∧ i < 2 ^ 63 ∧ Q (.int i s'.toks) { s' with toks := s'.toks + 1 }) E s) : wpAny (model prog w) A (call (.builtin "len") [.ref q]) Q E s := by
  refine Calls.call_function_entry kind_len plain_len entry_len (args_len1 _) ?_
  unfold Builtin.«len»
  refine wpAny_bind (m := oneArg "len" _) (wpAny_pure ?_)
  refine wpAny_bind (wpAny_mono h (fun r s' hr => ?_) fun _ _ h' => h')
  obtain ⟨i, t, rfl, h0, h1, hq⟩ := hr
  refine wpAny_bind (wpAny_holding (wpAny_pure ?_))
  refine wpAny_bind (wpAny_letGo ?_)
  show wpAny _ _ (if i < 0 then _ else _) _ _ _
  rw [if_neg (by omega)]
  show wpAny _ _ (if i ≥ 2 ^ 63 then _ else _) _ _ _
  rw [if_neg (by omega)]
  exact wpAny_bind (wpAny_mkInt (wpAny_pure ⟨_, rfl, hq⟩))
theorem ins_cls {prog : Program} {w : World} {H : Hp} {h : Heap} {q C dx : Addr} {fs : List (Str × V)} (hok : HOk prog w H h) (e : H q = some (.ins C dx fs)) : ∃ o, h.get? q = some o ∧ o.cls = .ref C := by
  obtain ⟨mA, O, _⟩ := ins_get hok e
  exact ⟨_, O.obj, rfl⟩
/-- an own special method of one value, run within a built-in -/
theorem own_run {pins : List (Addr × Obj)} {σ : L2.St} {H : Hp} {s : Shared} {E' : Value → Shared → Prop} {g : Nat} {fn : Fn} {U : Um} {S : Store} {v : V} {d : D} {u : Value} {Q : QD} {Qv : Value → Shared → Prop} (FA : FAll X ct P F Γ k fdm pat) (hr : RoomG (k + 1) X.A) (I : Inv X pins σ H s) (hfn : P.fns[g]? = some fn) (hp : (g, 1, [], []) ∈ pat) (hnp : fn.np = 1) (hfr : fn.fresh = false)
    (ru : RelV v u) (ok : Ok X.K ct U S H) (hv : AnV X.K ct U H v d) (q : F Γ g [d] S Q fun _ _ => False) (po : ∀ (r : V) (dr : D) (U' : Um) (S' : Store) (H' : Hp) (w : Value) (s' : Shared), Stp U H U' H' → Ok X.K ct U' S' H' → Dn X.K ct U' H' r dr → Q dr S' → Inv X pins σ H' s' → RelV r w → Qv w s') :
    wpAny (model X.prog X.w) X.A.in1 (call (.ref (ct.fa g)) [u]) Qv E' s := by
  obtain ⟨hl, G⟩ := FA.fn g fn hfn
  have hb : BindsTo s (fdm g) ⟨[u], []⟩ ((fn.names.take fn.np).zip [u]) := bind1 (n := 0) (FA.pt g _ _ _ fn hp hfn) (by rw [hl, hnp]) I.kIn
  refine wpAny_call (codeAny_mono (G X.A.in1 X.stack s H ⟨[u], []⟩ [u] [v] (fun r H' => ∃ dr U' S', Stp U H U' H' ∧ Ok X.K ct U' S' H' ∧ Dn X.K ct U' H' r dr ∧ Q dr S') (fun _ _ _ => False) hr.in1 I.env0.in1 hb (.cons ru .nil)
    ⟨U, S, [d], Q, _, ok, .cons hv .nil, q, fun r dr U' S' H' s' o' md qq => ⟨dr, U', S', s', o', by rw [hfr] at md; exact md, qq⟩, fun _ _ _ _ _ _ _ _ _ h => h⟩) fun r s' hq => ?_)
  cases r with
  | error er => obtain ⟨_, _, _, _, _, _, _, _, _, _, _, _, _, z⟩ := hq
  | ok fl =>
    cases fl with
    | ret u' =>
      obtain ⟨r, H', I3, rv, dr, U', S', s', o', dn, qq⟩ := I.after hq
      exact po r dr U' S' H' u' _ s' o' dn qq I3 rv
    | next => exact False.elim hq
    | brk => exact False.elim hq
    | cont => exact False.elim hq
variable {a : Expr} {xa : Ex} {pos p : Pos}
theorem x_len (CF : ∀ c cl, P.cls[c]? = some cl → ClF X.K ct ats c cl) (FA : FAll X ct P F Γ k fdm pat) (hpat : ∀ (c : Nat) (cl : Cl) (f : Nat), P.cls[c]? = some cl → cl.len = some f → ∃ fn, P.fns[f]? = some fn ∧ (f, 1, [], []) ∈ pat ∧ fn.np = 1 ∧ fn.fresh = false) (hr : RoomG (k + 1) X.A)
    (hg : Gl X "len") (hm : X.mg "len" = none) (hs : starEach [a] X.env = (false, eval a X.env) :: starEach [] X.env) (ha : PE X a (TE_ X.K ct W .bn (ev P F Γ xa).e)) : PE X (.Call (.Name "len" p) [a] [] pos) (TE_ X.K ct W m (ev P F Γ (.bi .len (.cons xa .nil))).e) := by
  refine ⟨fun pins s σ H Qv I ⟨U, S, ρ, Q, E, ok, sl, r, po, px⟩ => ?_⟩
  refine wpAny_Call_Name_kw (ld_blt I hg hm boot_len ?_ (by decide) (by decide))
  have h1 : tCons (TE_ X.K ct W .bn (ev P F Γ xa).e) tNil σ H fun vs H1 => ∃ v U1 S1 d, vs = [v] ∧ Stp U H U1 H1 ∧ Ok X.K ct U1 S1 H1 ∧ Bn X.K ct U1 H1 v d ∧ biX P F Γ .len [d] S1 Q E :=
    ⟨U, S, ρ, _, E, ok, sl, r, fun v d U1 S1 H1 s1 o1 m1 q1 => ⟨v, U1, S1, d, rfl, s1, o1, m1, q1⟩, px⟩
  refine PyProof.Rows.callWith_builtin1 (thn ((pa_cons ha pa_nil hs).run pos pins s σ H _ I h1) fun us s1 ⟨vs, H1, I1, r1, v, U1, S1, d, ev, t1, o1, b1, q1⟩ => ?_) hs rfl
  subst ev
  obtain ⟨u, rfl, ru⟩ := vals1 r1
  simp only [biX] at q1
  split at q1
  · rename_i ho
    unfold ownX spec at q1
    cases ec : clsOf d S1 with
    | none => unfold isObj at ho; rw [ec] at ho; cases ho
    | some cf =>
      obtain ⟨c, fs⟩ := cf
      simp only [ec] at q1
      cases hcl : P.cls[c]? with
      | none => simp only [hcl] at q1
      | some cl =>
        simp only [hcl] at q1
        cases hlen : cl.len with
        | none => simp only [hlen] at q1
        | some g =>
          simp only [hlen] at q1
          obtain ⟨fn, e1, e2, e3, e4⟩ := hpat c cl g hcl hlen
          obtain ⟨q, dx, xs, rfl, hq, l⟩ := inst_at o1 b1 ec
          cases (show u = .ref q from ru)
          obtain ⟨ob, ho1, ho2⟩ := ins_cls I1.hok hq
          obtain ⟨f1, f2⟩ := (CF c cl hcl).len_ g hlen
          refine len_own (own_special I1.kIn ho1 ho2 f1 f2 ?_)
          refine own_run (v := .ref q) FA hr I1 e1 e2 e3 e4 rfl o1 ?_ q1 fun r dr U' S' H' w' s' st' o' dn qq I' rw' => ?_
          · cases b1 with
            | of h => exact .of h
            | lst _ _ _ => cases ec
          · cases dr with
            | int i =>
              cases dn
              obtain ⟨t, rfl⟩ := rw'
              obtain ⟨⟨i0, i1⟩, qq⟩ := qq
              exact ⟨i, t, rfl, i0, by omega, .int i, H', I'.tok _, ⟨_, rfl⟩, po _ _ U' S' H' (t1.trans o1 st') o' (.flat (.int i) fun _ e => nomatch e) qq⟩
            | _ => exact qq.elim
  · exact cb_len pins s1 σ H1 [v] [u] Qv I1 (.cons ru .nil) ⟨U1, S1, [d], _, o1, .cons b1 .nil, q1, (po.stp t1 o1).fin o1⟩
end
end Sb
set_option linter.all false
set_option maxRecDepth 20000
set_option maxHeartbeats 1000000
set_option autoImplicit false
/-! A15: instances made. -/
namespace Sb
open PySem PySem.Spec PyProof.Rows L2
section
variable {K : PySem.W.Frag} {ct : CT}
mutual
theorem Dn.noP {U : Um} {H : Hp} {a : Addr} (k : U a ≠ .ce) : ∀ {v : V} {d : D}, Dn K ct U H v d → d.noP a = true
  | _, _, .non => rfl
  | _, _, .bl _ => rfl
  | _, _, .int _ => rfl
  | _, _, .str _ => rfl
  | _, _, .lst _ _ l => DnL.noP k l
  | _, _, .tup _ _ _ l => DnL.noP k l
  | _, _, .scr _ => rfl
  | _, _, .obj _ _ _ l => DnL.noP k l
  | _, _, .cls _ => rfl
  | _, _, .sd _ _ => rfl
  | _, _, .exc _ _ _ _ l => DnL.noP k l
  | _, _, .ptr (a := b) h => by
    show (!(b == a)) = true
    have : b ≠ a := fun z => k (z ▸ h)
    simpa using this
theorem DnL.noP {U : Um} {H : Hp} {a : Addr} (k : U a ≠ .ce) : ∀ {vs : List V} {ds : List D}, DnL K ct U H vs ds → D.noPL a ds = true
  | _, _, .nil => rfl
  | _, _, .cons h t => by
    show (D.noP a _ && D.noPL a _) = true
    rw [Dn.noP k h, DnL.noP k t]; rfl
end
mutual
theorem pure_noP {a : Nat} : ∀ (d : D), d.pure = true → d.noP a = true
  | .none, _ => rfl
  | .bool _, _ => rfl
  | .int _, _ => rfl
  | .str _, _ => rfl
  | .tup xs, h => pureL_noP xs h
  | .lst xs, h => pureL_noP xs h
  | .dct kvs, h => pureK_noP kvs h
  | .obj _ xs, h => pureL_noP xs h
  | .exc _ xs, h => pureL_noP xs h
  | .cls _, _ => rfl
  | .clo _, _ => rfl
  | .ptr _, h => by cases h
  | .scr _, _ => rfl
  | .own _, _ => rfl
  | .bor _, _ => rfl
  | .sd _, _ => rfl
theorem pureL_noP {a : Nat} : ∀ (ds : List D), D.pureL ds = true → D.noPL a ds = true
  | [], _ => rfl
  | x :: r, h => by
    have h : (D.pure x && D.pureL r) = true := h
    rw [Bool.and_eq_true] at h
    show (D.noP a x && D.noPL a r) = true
    rw [pure_noP x h.1, pureL_noP r h.2]; rfl
theorem pureK_noP {a : Nat} : ∀ (ds : List (D × D)), D.pureK ds = true → D.noPK a ds = true
  | [], _ => rfl
  | (k, v) :: r, h => by
    have h : (D.pure k && D.pure v && D.pureK r) = true := h
    rw [Bool.and_eq_true, Bool.and_eq_true] at h
    show (D.noP a k && D.noP a v && D.noPK a r) = true
    rw [pure_noP k h.1.1, pure_noP v h.1.2, pureK_noP r h.2]; rfl
end
mutual
/-- the address a is let go: it does not stand in the data -/
theorem Dn.letGo {U : Um} {H : Hp} {a : Addr} : ∀ {v : V} {d : D}, Dn K ct U H v d → d.noP a = true → Dn K ct (U.set a .sh) H v d
  | _, _, .non, _ => .non
  | _, _, .bl b, _ => .bl b
  | _, _, .int i, _ => .int i
  | _, _, .str x, _ => .str x
  | _, _, .lst k r l, h => .lst (set_sh k) r (DnL.letGo l h)
  | _, _, .tup k r p l, h => .tup (set_sh k) r p (DnL.letGo l h)
  | _, _, .scr (.inl ⟨k, r⟩), _ => .scr (.inl ⟨set_sh k, r⟩)
  | _, _, .scr (.inr r), _ => .scr (.inr r)
  | _, _, .obj k r n l, h => .obj (set_sh k) r n (DnL.letGo l h)
  | _, _, .cls c, _ => .cls c
  | _, _, .sd k h, _ => .sd (set_sh k) h
  | _, _, .exc e k r n l, h => .exc e (set_sh k) r n (DnL.letGo l h)
  | _, _, .ptr (a := b) k, h => .ptr (by
    have h : (!(b == a)) = true := h
    have : b ≠ a := by simpa using h
    rw [Um.set_ne this]; exact k)
theorem DnL.letGo {U : Um} {H : Hp} {a : Addr} : ∀ {vs : List V} {ds : List D}, DnL K ct U H vs ds → D.noPL a ds = true → DnL K ct (U.set a .sh) H vs ds
  | _, _, .nil, _ => .nil
  | _, _, .cons (d := d) (ds := ds) h t, n => by
    have n : (D.noP a d && D.noPL a ds) = true := n
    rw [Bool.and_eq_true] at n
    exact .cons (Dn.letGo h n.1) (DnL.letGo t n.2)
theorem set_sh {U : Um} {a b : Addr} (k : U b = .sh) : U.set a .sh b = .sh := by
  by_cases z : b = a
  · rw [z, Um.set_same]
  · rw [Um.set_ne z]; exact k
end
end
section
variable {X : Cx} {ct : CT} {W : WX} {m : Mo} {P : Prog} {F : Fsem} {Γ : List Clo} {k : Nat} {fdm : Nat → FuncData} {pat : List (Nat × Nat × List Str × List Nat)} {ats : List Str}
/-- a new instance in the store -/
theorem Ok.inst {U : Um} {S : Store} {H : Hp} {x dx : Addr} {c : Nat} (o : Ok X.K ct U S H) (hx : H x = none) (hd : H dx = none) (ne : dx ≠ x) :
    Ok X.K ct (U.set x .ce) (S.put x (.ins c [])) (upd (upd H dx (.own x)) x (.ins (ct.ad c) dx [])) ∧ Stp U H (U.set x .ce) (upd (upd H dx (.own x)) x (.ins (ct.ad c) dx [])) ∧ S x = none := by
  have keep : ∀ a u, H a = some u → upd (upd H dx (.own x)) x (.ins (ct.ad c) dx []) a = some u := fun a u e => by
    rw [upd_ne (ne_of_none e hx), upd_ne (ne_of_none e hd)]; exact e
  have hxu : U x ≠ .ce := fun z => o.there x (by rw [z]; decide) hx
  have sp : S x = none := by
    cases q : S x with
    | none => rfl
    | some c => exact absurd ((o.ce x).mpr (by rw [q]; simp)) hxu
  have st : StW U H (U.set x .ce) (upd (upd H dx (.own x)) x (.ins (ct.ad c) dx [])) := fun a u e ka => ⟨keep a u e, by rw [Um.set_ne (ne_of_none e hx)]; exact ka⟩
  have kc : ∀ a, U a = .ce → U.set x .ce a = .ce := fun a ha => by
    by_cases z : a = x
    · rw [z, Um.set_same]
    · rw [Um.set_ne z]; exact ha
  refine ⟨⟨fun a => ?_, fun a cc e => ?_, fun a ha => ?_, fun q hq => (o.tab q hq).st (fun u e => keep q.1 u e) st⟩, ⟨fun a u e _ => keep a u e, fun a ha => ?_⟩, sp⟩
  · by_cases z : a = x
    · rw [z, Um.set_same]; simp [Store.put]
    · rw [Um.set_ne z]; simpa [Store.put, z] using o.ce a
  · by_cases z : a = x
    · subst z
      simp [Store.put] at e
      subst e
      exact ⟨dx, [], by rw [upd_same]; simp, Nat.zero_le _, .nil⟩
    · simp [Store.put, z] at e
      exact (o.cell a cc e).st (fun u q => keep a u q) st kc
  · by_cases z : a = x
    · rw [z, upd_same]; simp
    · rw [Um.set_ne z] at ha
      have := o.there a ha
      cases e : H a with
      | none => exact absurd e this
      | some u => rw [keep a u e]; simp
  · rw [Um.set_ne (fun z => ha (by rw [z]; exact hx))]
/-- an instance that is never changed again leaves the store -/
theorem Ok.letGo {U0 U : Um} {S0 S : Store} {H0 H : Hp} {x : Addr} (o0 : Ok X.K ct U0 S0 H0) (hx : S0 x = none) (ht : ¬ ct.tab x) (o : Ok X.K ct U S H) (e : S.del x = S0) : Ok X.K ct (U.set x .sh) S0 H := by
  have eq : ∀ a, a ≠ x → S a = S0 a := fun a z => by rw [← e]; simp [Store.del, z]
  have hk : U0 x ≠ .ce := fun z => ((o0.ce x).mp z).elim (absurd hx) ht
  refine ⟨fun a => ?_, fun a c ec => ?_, fun a ha => ?_, fun q hq => (o.tab q hq).st (fun _ q => q) (fun b u e k => ⟨e, set_sh (K := X.K) (ct := ct) k⟩)⟩
  · by_cases z : a = x
    · rw [z, Um.set_same, hx]; simp [ht]
    · rw [Um.set_ne z, ← eq a z]; exact o.ce a
  · have z : a ≠ x := fun z => by rw [z, hx] at ec; cases ec
    have c1 := o.cell a c (by rw [eq a z]; exact ec)
    have c0 := o0.cell a c ec
    cases c with
    | lst ds =>
      obtain ⟨xs, h1, h2⟩ := c1
      obtain ⟨ys, h3, h4⟩ := c0
      exact ⟨xs, h1, DnL.letGo h2 (DnL.noP hk h4)⟩
    | ins c fs =>
      obtain ⟨dx, xs, h1, h2, h3⟩ := c1
      obtain ⟨dy, ys, h4, h5, h6⟩ := c0
      exact ⟨dx, xs, h1, h2, DnL.letGo h3 (DnL.noP hk h6)⟩
    | dct _ => exact c1
  · by_cases z : a = x
    · rw [z, Um.set_same] at ha; exact absurd rfl ha
    · rw [Um.set_ne z] at ha; exact o.there a ha
variable {es : List Expr} {kws : List Keyword} {xa xb : Ex} {pos p : Pos} {ks : List Str} {idx : List Nat}
theorem mkD_ok {c : Nat} {ds : List D} {S : Store} {Q E : QD} (h : mkD P F Γ c idx ds S Q E) : ∃ cl fn, P.cls[c]? = some cl ∧ P.fns[cl.init]? = some fn ∧ ∀ a : Nat, S a = none → ∃ args, bindK fn.np fn.dfl (.ptr a :: ds) idx = some args ∧
    F Γ cl.init args (S.put a (.ins c [])) (fun r S' => r = .none ∧ match S' a with
          | some (.ins c' fs) => (c' = c ∧ fs.length = cl.nf) ∧ if cl.mu = true then Q (.ptr a) S' else (D.pureL fs = true ∧ S'.del a = S) ∧ Q (.obj c fs) S
          | _ => False) E := by
  unfold mkD at h
  cases e : P.cls[c]? with
  | none => simp only [e] at h
  | some cl =>
    simp only [e] at h
    cases e2 : P.fns[cl.init]? with
    | none => simp only [e2] at h
    | some fn =>
      simp only [e2] at h
      refine ⟨cl, fn, rfl, e2, fun a ha => ?_⟩
      have q := h a ha
      cases e3 : bindK fn.np fn.dfl (.ptr a :: ds) idx with
      | none => simp only [e3] at q
      | some args =>
        simp only [e3] at q
        exact ⟨args, rfl, q⟩
theorem mk_run {c : Nat} {cl : Cl} {fn : Fn} {pins : List (Addr × Obj)} {σ : L2.St} {H : Hp} {s : Shared} {Qv : VK} (I : Inv X pins σ H s) (hcl : P.cls[c]? = some cl) (hfn : P.fns[cl.init]? = some fn) (CF : ClF X.K ct ats c cl) (FA : FAll X ct P F Γ k fdm pat) (hp : (cl.init, es.length + 1, ks, idx) ∈ pat) (hkl : ks.length = kws.length) (hfr : fn.fresh = false) (hr : RoomG (k + 1) X.A) (tk : Takes X W)
    (hmr : m ≠ .fr)
    (hall : (backToKw pos (keywordEach kws X.env)).all (·.1.isSome) = true) (hks : (backToKw pos (keywordEach kws X.env)).filterMap (·.1) = ks)
    (hpl : ((backTo pos (starEach es X.env)).any (·.1) || (backToKw pos (keywordEach kws X.env)).any (·.1.isNone)) = false) (hn : es = [] → xa = .nil) (he : ∀ e r, es = e :: r → starEach es X.env = (false, eval e X.env) :: starEach r X.env)
    (ha : PA X es (TA_ X.K ct W .an es.length (ev P F Γ xa).l)) (hkw : PK X kws (TA_ X.K ct W .an kws.length (ev P F Γ xb).l))
    (h : TE_ X.K ct W m (fun ρ S Q E => (ev P F Γ xa).l ρ S (fun ds S => (ev P F Γ xb).l ρ S (fun es S => es.length = idx.length ∧ mkD P F Γ c idx (ds ++ es) S Q E) E) E) σ H Qv) :
    wpAny (model X.prog X.w) X.A (callWith pos (.ref (ct.ad c)) [] (backTo pos (starEach es X.env)) (backToKw pos (keywordEach kws X.env))) (EP X pins σ Qv) X.xe s := by
  refine args_run (first := []) (sem := fun ds S Q E => mkD P F Γ c idx ds S Q E) I CF.mk_.kp hall hks hpl hn he ha hkw h fun us ws vs zs H2 s2 I2 r1 r2 rd => ?_
  obtain ⟨U, S, ds, es', Q, E, l1, l2, o2, p1, p2, q, po, px⟩ := rd
  obtain ⟨cl', fn', e1, e2, q⟩ := mkD_ok q
  rw [hcl] at e1; cases e1
  rw [hfn] at e2; cases e2
  obtain ⟨hnp, G⟩ := FA.fn cl.init fn hfn
  have I3 := Inv.made (C := ct.ad c) I2
  have hx := I2.hok.fresh (Nat.le_succ s2.heap.objs.size)
  have hd := I2.hok.fresh (Nat.le_refl s2.heap.objs.size)
  have ne : s2.heap.objs.size ≠ s2.heap.objs.size + 1 := Nat.ne_of_lt (Nat.lt_succ_self _)
  obtain ⟨o3, t3, sx⟩ := Ok.inst (c := c) o2 hx hd ne
  obtain ⟨args, q1, q2⟩ := q _ sx
  obtain ⟨dv, du, hdv, hdn, hbind⟩ := (FA.pt _ _ ks idx fn hp hfn).ex
  obtain ⟨full, b1, b2⟩ := hbind { s2 with heap := (s2.heap.push PySem.W.emptyDict).push (PySem.W.instObj (ct.ad c) s2.heap.objs.size) } (.ref (s2.heap.objs.size + 1) :: us) ws I3.kIn (by rw [List.length_cons, ← l1, r1.length]) (by rw [← r2.length, l2, hkl])
  have pp : Paired (fun d v => AnV X.K ct (U.set (s2.heap.objs.size + 1) .ce) (upd (upd H2 s2.heap.objs.size (.own (s2.heap.objs.size + 1))) (s2.heap.objs.size + 1) (.ins (ct.ad c) s2.heap.objs.size [])) v d) (.ptr (s2.heap.objs.size + 1) :: ds ++ es') (.ref (s2.heap.objs.size + 1) :: vs ++ zs) :=
    .cons (.of (.ptr Um.set_same)) (paired_app (an_stp o2 t3 p1) (an_stp o2 t3 p2))
  have hd3 := (hdn (U.set (s2.heap.objs.size + 1) .ce) (upd (upd H2 s2.heap.objs.size (.own (s2.heap.objs.size + 1))) (s2.heap.objs.size + 1) (.ins (ct.ad c) s2.heap.objs.size []))).anP (X := X)
  have q1' : bindK (fn.names.take fn.np).length fn.dfl (.ptr (s2.heap.objs.size + 1) :: ds ++ es') idx = some args := by rw [hnp]; exact q1
  obtain ⟨vfull, b3, b4⟩ := bindK_rel hd3 pp q1'
  obtain ⟨full', b5, b6⟩ := bindK_rel (R := RelV) hdv (.cons (show RelV (.ref (s2.heap.objs.size + 1)) (.ref (s2.heap.objs.size + 1)) from rfl) (paired_app r1 r2)) b3
  have b5' : full' = full := by
    have := b1.symm.trans b5
    exact (Option.some.inj this).symm
  subst b5'
  refine wpAny_call (make_map (f := ct.fa cl.init) I2.kIn CF.mk_.makes CF.mk_.init (beq_iff_eq.mp CF.mk_.fn) (codeAny_mono (G _ X.stack _ _ ⟨Value.ref (s2.heap.objs.size + 1) :: us, ks.zip ws⟩ full' vfull
    (fun v H' => v = .non ∧ ∃ U' S', Stp (U.set (s2.heap.objs.size + 1) .ce) (upd (upd H2 s2.heap.objs.size (.own (s2.heap.objs.size + 1))) (s2.heap.objs.size + 1) (.ins (ct.ad c) s2.heap.objs.size [])) U' H' ∧ Ok X.K ct U' S' H' ∧ (match S' (s2.heap.objs.size + 1) with
          | some (.ins c' fs) => (c' = c ∧ fs.length = cl.nf) ∧ if cl.mu = true then Q (.ptr (s2.heap.objs.size + 1)) S' else (D.pureL fs = true ∧ S'.del (s2.heap.objs.size + 1) = S) ∧ Q (.obj c fs) S
          | _ => False)) (fun cls d H' => W cls d σ H') (hr.make (ct.ad c) us _) (I3.env0.make (ct.ad c) us _) b2 b6
    ⟨_, _, args, _, E, o3, b4, q2, fun v d U' S' H' s' o' md qq => ?_, fun cls da xx U' S' H' s' o' xn qq => px cls da xx U' S' H' (t3.trans o3 s') o' xn qq⟩) fun r s' hq => ?_))
  · obtain ⟨rfl, qq⟩ := qq
    rw [hfr] at md
    cases (show Dn X.K ct U' H' v .none from md)
    exact ⟨rfl, U', S', s', o', qq⟩
  · cases r with
    | error e => exact passAt tk σ pins _ _ e s' I3 hq
    | ok fl =>
      cases fl with
      | ret u =>
        obtain ⟨v, H', I4, rv, ev, U', S', s', o', qq⟩ := I3.after hq
        subst ev
        refine ⟨rv, V.ref (s2.heap.objs.size + 1), H', I4, rfl, ?_⟩
        cases ec : S' (s2.heap.objs.size + 1) with
        | none => simp only [ec] at qq
        | some cell =>
          cases cell with
          | ins c' fs =>
            simp only [ec] at qq
            obtain ⟨⟨rfl, hlen⟩, qq⟩ := qq
            have hce : U' (s2.heap.objs.size + 1) = .ce := (o'.ce _).mpr (by rw [ec]; simp)
            have st2 : Stp U H2 U' H' := t3.trans o3 s'
            split at qq
            · exact po _ _ U' S' H' st2 o' (.ofDn (.ptr hce) hmr) qq
            · obtain ⟨⟨pf, sd⟩, qq⟩ := qq
              obtain ⟨dx, xs, h1, h2, h3⟩ := o'.cell _ _ ec
              have o4 := Ok.letGo o2 sx (o2.newT hx) o' sd
              refine po _ _ (U'.set (s2.heap.objs.size + 1) .sh) S H' (st2.setNew hx) o4 (.ofDn (.obj Um.set_same h1 (by rw [h3.length, hlen, CF.nf]) (DnL.letGo h3 (pureL_noP fs pf))) hmr) qq
          | _ => simp only [ec] at qq
      | next => exact False.elim hq
      | brk => exact False.elim hq
      | cont => exact False.elim hq
theorem x_mk {c : Nat} {cl : Cl} {fn : Fn} {x : Str} (hcl : P.cls[c]? = some cl) (hfn : P.fns[cl.init]? = some fn) (CF : ClF X.K ct ats c cl) (FA : FAll X ct P F Γ k fdm pat) (hp : (cl.init, es.length + 1, ks, idx) ∈ pat) (hkl : ks.length = kws.length) (hfr : fn.fresh = false) (hr : RoomG (k + 1) X.A) (tk : Takes X W) (hg : Gl X x) (hm : X.mg x = some (.ref (ct.ad c)))
    (hmr : m ≠ .fr) (hdb : (x == ("__debug__" : Str)) = false)
    (hall : (backToKw pos (keywordEach kws X.env)).all (·.1.isSome) = true) (hks : (backToKw pos (keywordEach kws X.env)).filterMap (·.1) = ks)
    (hpl : ((backTo pos (starEach es X.env)).any (·.1) || (backToKw pos (keywordEach kws X.env)).any (·.1.isNone)) = false) (hn : es = [] → xa = .nil) (he : ∀ e r, es = e :: r → starEach es X.env = (false, eval e X.env) :: starEach r X.env)
    (ha : PA X es (TA_ X.K ct W .an es.length (ev P F Γ xa).l)) (hkw : PK X kws (TA_ X.K ct W .an kws.length (ev P F Γ xb).l)) :
    PE X (.Call (.Name x p) es kws pos) (TE_ X.K ct W m (ev P F Γ (.mk c xa xb idx)).e) := by
  refine ⟨fun pins s σ H Qv I h => ?_⟩
  refine wpAny_Call_Name_kw (ld_glob I hg hm ?_ hdb)
  exact mk_run I hcl hfn CF FA hp hkl hfr hr tk hmr hall hks hpl hn he ha hkw h
end
end Sb
set_option linter.all false
set_option maxRecDepth 100000
set_option maxHeartbeats 2000000
set_option autoImplicit false
/-! AW: own ==, !=, str, classmethods: what the machine does. -/
namespace Sb
open PySem PySem.Spec PyProof.Rows L2
theorem ne_slot : Slot "object" "__ne__" "object.__ne__" := Slot.of (T := "object") (name := "__ne__") (owner := "object") (n := "__ne__") (by rw [typeLookup_type, builtinLookup_eq_fast]; kernel_rfl) (by decide +kernel) (by decide +kernel) (by decide +kernel) (.inl (by decide +kernel)) (by rw [isSubtype_type]; kernel_rfl)
section
open PySem.W
variable {prog : Program} {w : World} {A : Around} {E : Value → Shared → Prop} {s : Shared} {K : PySem.W.Frag} {x C L f : Addr} {h₀ : Heap} {m : Str → Option Value} {ox : Obj} {od : Option Obj} {name : Str} {b tb : Value}
theorem ifBound_B {M : Model} {id : String} {args : List Value} {Q : Option Value → Shared → Prop} (X : K.In s.heap) (I : InstAt s.heap x ox C od) (hs : findIn K (.ref C) name = some (some (.builtin id))) (hb : ∀ self, bindSpecial (.builtin id) self = pure (.builtin id, [self]))
    (h : wpAny M A (call (.builtin id) (.ref x :: args)) (fun v => Q (some v)) E s) : wpAny M A (callSpecialIfBound? (.ref x) name args) Q E s := by
  simp only [callSpecialIfBound?, bindSpecialIfBound?]
  refine wpAny_holding (wpAny_bind (wpAny_bind (wpAny_bind (I.type.here ((looks_findIn X hs).here ?_)))))
  refine wpAny_bind (wpAny_askSetting (wpAny_ite ?_))
  have fin : wpAny M A (call (.builtin id) ([.ref x] ++ args) >>= fun v => pure (some v)) Q E s := wpAny_bind (wpAny_mono h (fun v s' h' => wpAny_pure h') fun _ _ h' => h')
  split
  · exact wpAny_bind ((Looks.of_pure (hb _)).here (wpAny_pure (by exact fin)))
  · exact wpAny_tryCatch (wpAny_bind ((Looks.of_pure (hb _)).here (wpAny_pure (by exact fin))))
open Builtin in
theorem objNe_K {Q : Fin → Shared → Prop} (hu : A.units < cLine) (X : K.In s.heap) (I : InstAt s.heap x ox C od) (hs : findIn K (.ref C) "__eq__" = some (some (.ref f))) (hf : isFn K (.ref f) = true)
    (hcall : wpAny (model prog w) A (call (.ref f) [.ref x, b]) (fun v s' => ∃ c, v = .bool c ∧ Q (.done (.ret (.bool (!c)))) s') E s) :
    wpAny (model prog w) A (Builtin.«object.__ne__» ⟨[.ref x, b], []⟩) Q E s := by
  unfold Builtin.«object.__ne__»
  repeat (first
    | with_reducible refine wpAny_cRoomFor hu ?_
    | (refine wpAny_bind (m := callSpecialIfBound? (.ref x) (Str.ofString "__eq__") [b])
        (ifBound_K X I hs hf (wpAny_mono hcall (fun r s' hr => by
          obtain ⟨c, rfl, hq⟩ := hr
          repeat (first | exact hq | exact wpAny_pure hq | exact wpAny_truthy_bool hq | (refine wpAny_bind (m := truthy (.bool _)) (wpAny_truthy_bool ?_)) | wp_step)) fun _ _ e => e)))
    | wp_step)
theorem call_bool_own {Q : Value → Shared → Prop} (F : Fr h₀ L s.heap m) (X : K.In h₀) (I : InstAt s.heap x ox C od) (hs : findIn K (.ref C) "__bool__" = some (some (.ref f))) (hf : isFn K (.ref f) = true)
    (h : wpAny (model prog w) A.in1.in1 (call (.ref f) [.ref x]) (PySem.W.BoolBack fun c s' => Q (.bool c) s') E s) : wpAny (model prog w) A (call (.type "bool") [.ref x]) Q E s := by
  refine callType_codes (T := "bool") (Bi := Builtin.«object.__init__») (Q₁ := fun r s₁ => ∃ c, r = .bool c ∧ Q r s₁) PySem.F.called_bool (PySem.F.typeCall_bool_1 _) PySem.F.entry_object_init ?_ ?_
  · refine codeAny_of_tree ?_
    show wpAny _ A.in1.in1 (do checkBuiltinCall "bool.__new__" ⟨[.type "bool", .ref x], []⟩; again (.builtin "bool.__new__" ⟨[.type "bool", .ref x], []⟩)) _ _ s
    refine wpAny_bind (wpAny_of_eq (PySem.F.newCall_bool_1 _) (wpAny_pure ⟨plainId_quiet (by decide +kernel) _, codeAny_builtin PySem.F.entry_bool_new ?_⟩))
    rw [Around.under_plainId (by decide +kernel) _]
    unfold Builtin.«bool.__new__»
    have f1 := PySem.F.conv_sub_bool
    have tr : wpAny (model prog w) A.in1.in1 (truthy (.ref x)) (fun c s₁ => Q (.bool c) s₁) E s := truthy_K F X I hs hf h
    repeat (first
      | (refine wpAny_bind (m := truthy (.ref x)) (wpAny_mono tr (fun c s₁ hq => ?_) fun _ _ e => e); exact wpAny_pure ⟨c, rfl, hq⟩)
      | wp_step)
  · rintro obj s₁ ⟨c, rfl, hq⟩
    exact ⟨rfl, PySem.F.args_object_init_2 _ _, object_init_meets PySem.F.called_bool.init.lookup PySem.F.called_bool.made (by decide) prog w A.in1 _ s₁ ⟨rfl, rfl, hq⟩⟩
theorem ne_Ko {Q : Value → Shared → Prop} (hu : A.units < cLine) (hu1 : A.in1.units < cLine) (X : K.In s.heap) (I : InstAt s.heap x ox C od) (hb : Looks (model prog w) s.heap (typeOf b) tb) (hnf : notFirst K C tb = true) (hn : findIn K (.ref C) "__ne__" = some (some (.builtin "object.__ne__")))
    (hs : findIn K (.ref C) "__eq__" = some (some (.ref f))) (hf : isFn K (.ref f) = true) (hm : mroIn K C (.type "object") = some true)
    (h : wpAny (model prog w) A.in1 (call (.ref f) [.ref x, b]) (fun v s' => ∃ c, v = .bool c ∧ Q (.bool (!c)) s') E s) : wpAny (model prog w) A (richCompare .NotEq (.ref x) b) Q E s := by
  have one : wpAny (model prog w) A (tryCompare (.ref x) "__ne__" b) (fun r s' => ∃ v, r = some v ∧ Q v s') E s := by
    unfold tryCompare
    refine wpAny_bind (ifBound_B X I hn ne_slot.bind ?_)
    refine wpAny_call (codeAny_call_builtin ne_slot.plain F.cmpEntry_ne (@check_slot (model prog w) _ _ s "object.__ne__" "object" "__ne__" (.ref x) [b] [] _ F.cmpKind_ne F.cmpSplit_ne (I.type.andThen (looks_mroIn X hm)) (F.cmpArgs_ne _ _)
      (objNe_K hu1 X I hs hf (wpAny_mono h (fun v s' hv => ?_) fun _ _ e => e))))
    obtain ⟨c, rfl, hq⟩ := hv
    exact ⟨c, rfl, wpAny_pure ⟨_, rfl, hq⟩⟩
  unfold richCompare
  simp only [oneThing_ref]
  refine wpAny_holding (wpAny_bind (wpAny_cRoomFor hu ?_))
  refine wpAny_bind (I.type.here (wpAny_bind (hb.here ?_)))
  rcases Bool.or_eq_true_iff.mp hnf with e | e
  · rw [beq_iff_eq.mp e]
    split
    · rename_i q; simp at q
    · refine wpAny_bind (wpAny_pure ?_)
      simp only [Bool.false_eq_true, if_false]
      refine wpAny_bind (wpAny_mono one (fun r s' z => ?_) fun _ _ e => e)
      obtain ⟨v, rfl, hq⟩ := z
      exact wpAny_pure hq
  · split
    · refine wpAny_bind ((looks_subIn X (beq_iff_eq.mp e)).here ?_)
      simp only [Bool.false_eq_true, if_false]
      refine wpAny_bind (wpAny_mono one (fun r s' z => ?_) fun _ _ e => e)
      obtain ⟨v, rfl, hq⟩ := z
      exact wpAny_pure hq
    · refine wpAny_bind (wpAny_pure ?_)
      simp only [Bool.false_eq_true, if_false]
      refine wpAny_bind (wpAny_mono one (fun r s' z => ?_) fun _ _ e => e)
      obtain ⟨v, rfl, hq⟩ := z
      exact wpAny_pure hq
end
section
variable {X : Cx} {ct : CT} {W : WX} {m : Mo} {P : Prog} {F : Fsem} {Γ : List Clo} {k : Nat} {fdm : Nat → FuncData} {pat : List (Nat × Nat × List Str × List Nat)} {ats : List Str}
theorem bindK_all {α : Type} {dfl us : List α} : bindK us.length dfl us [] = some us := by
  have key : ∀ (l : List Nat) (f : Nat → Option α) (g : Nat → α), (∀ j ∈ l, f j = some (g j)) → l.mapM f = some (l.map g) := by
    intro l f g
    induction l with
    | nil => intro _; rfl
    | cons a r ih =>
      intro h
      rw [List.mapM_cons, h a List.mem_cons_self, ih fun j hj => h j (List.mem_cons_of_mem _ hj)]
      rfl
  cases us with
  | nil => rfl
  | cons u0 us =>
    show (List.range (u0 :: us).length).mapM _ = _
    rw [key _ _ (fun j => (u0 :: us).getD j u0) fun j hj => ?_]
    · congr 1
      apply List.ext_getElem?
      intro i
      by_cases hi : i < (u0 :: us).length
      · rw [List.getElem?_map, List.getElem?_range hi, Option.map_some, List.getD_eq_getElem?_getD, List.getElem?_eq_getElem hi]; rfl
      · rw [List.getElem?_eq_none (by simpa using hi), List.getElem?_eq_none (by simpa using hi)]
    · have hj : j < (u0 :: us).length := List.mem_range.mp hj
      show (if j < (u0 :: us).length - 0 then (u0 :: us)[j]? else _) = _
      rw [if_pos (by simpa using hj), List.getD_eq_getElem?_getD, List.getElem?_eq_getElem hj]; rfl
/-- a call with all its values, by place -/
theorem bindAll {fd : FuncData} {ps : List Str} {dfl : List D} {n : Nat} {s : Shared} {us : List Value} (B : BindF X.K ct fd ps dfl n [] []) (hl : ps.length = n) (hu : us.length = n) (KI : X.K.In s.heap) : BindsTo s fd ⟨us, []⟩ (ps.zip us) := by
  obtain ⟨dv, du, _, _, h⟩ := B.ex
  obtain ⟨full, e1, e2⟩ := h s us [] KI hu rfl
  have : full = us := by
    rw [List.append_nil, hl, ← hu, bindK_all] at e1
    exact (Option.some.inj e1).symm
  rw [this] at e2
  exact e2
/-- an own special method, run somewhere -/
theorem own_runs {A : Around} {n : Nat} {pins : List (Addr × Obj)} {σ : L2.St} {H : Hp} {s : Shared} {E' : Value → Shared → Prop} {g : Nat} {fn : Fn} {U : Um} {S : Store} {vs : List V} {ds : List D} {us : List Value} {Q : QD} {Qv : Value → Shared → Prop} (FA : FAll X ct P F Γ k fdm pat) (hr : RoomG k A) (hA : Env0 X.prog X.w X.K X.mg X.base A X.stack s H) (I : Inv X pins σ H s) (hfn : P.fns[g]? = some fn) (hp : (g, n, [], []) ∈ pat) (hnp : fn.np = n) (hfr : fn.fresh = false) (hn : us.length = n)
    (ru : Vals vs us) (ok : Ok X.K ct U S H) (hv : Paired (fun d v => AnV X.K ct U H v d) ds vs) (q : F Γ g ds S Q fun _ _ => False) (po : ∀ (r : V) (dr : D) (U' : Um) (S' : Store) (H' : Hp) (w : Value) (s' : Shared), Stp U H U' H' → Ok X.K ct U' S' H' → Dn X.K ct U' H' r dr → Q dr S' → Inv X pins σ H' s' → RelV r w → Qv w s') :
    wpAny (model X.prog X.w) A (call (.ref (ct.fa g)) us) Qv E' s := by
  obtain ⟨hl, G⟩ := FA.fn g fn hfn
  have hb : BindsTo s (fdm g) ⟨us, []⟩ ((fn.names.take fn.np).zip us) := bindAll (FA.pt g _ _ _ fn hp hfn) (by rw [hl, hnp]) hn I.kIn
  refine wpAny_call (codeAny_mono (G A X.stack s H ⟨us, []⟩ us vs (fun r H' => ∃ dr U' S', Stp U H U' H' ∧ Ok X.K ct U' S' H' ∧ Dn X.K ct U' H' r dr ∧ Q dr S') (fun _ _ _ => False) hr hA hb ru
    ⟨U, S, ds, Q, _, ok, hv, q, fun r dr U' S' H' s' o' md qq => ⟨dr, U', S', s', o', by rw [hfr] at md; exact md, qq⟩, fun _ _ _ _ _ _ _ _ _ h => h⟩) fun r s' hq => ?_)
  cases r with
  | error er => obtain ⟨_, _, _, _, _, _, _, _, _, _, _, _, _, z⟩ := hq
  | ok fl =>
    cases fl with
    | ret u' =>
      obtain ⟨r, H', I3, rv, dr, U', S', s', o', dn, qq⟩ := I.after hq
      exact po r dr U' S' H' u' _ s' o' dn qq I3 rv
    | next => exact False.elim hq
    | brk => exact False.elim hq
    | cont => exact False.elim hq
end
section
variable {X : Cx} {ct : CT} {W : WX} {m : Mo} {P : Prog} {F : Fsem} {Γ : List Clo} {k : Nat} {fdm : Nat → FuncData} {pat : List (Nat × Nat × List Str × List Nat)} {ats : List Str}
theorem ownX_ok {g : Cl → Option Nat} {d : D} {ds : List D} {S : Store} {Q : QD} (h : ownX P F Γ g d ds S Q) : ∃ c fs cl f, clsOf d S = some (c, fs) ∧ P.cls[c]? = some cl ∧ g cl = some f ∧ F Γ f (d :: ds) S Q fun _ _ => False := by
  unfold ownX spec at h
  cases ec : clsOf d S with
  | none => simp only [ec] at h
  | some cf =>
    obtain ⟨c, fs⟩ := cf
    simp only [ec] at h
    cases hcl : P.cls[c]? with
    | none => simp only [hcl] at h
    | some cl =>
      simp only [hcl] at h
      cases hg : g cl with
      | none => simp only [hg] at h
      | some f =>
        simp only [hg] at h
        exact ⟨c, fs, cl, f, rfl, hcl, hg, h⟩
variable {a b e : Expr} {es : List Expr} {xa xb : Ex} {pos p apos : Pos}
/-- str(x), x an instance -/
theorem x_stro (CF : ∀ c cl, P.cls[c]? = some cl → ClF X.K ct ats c cl) (FA : FAll X ct P F Γ k fdm pat) (hpat : ∀ (c : Nat) (cl : Cl) (f : Nat), P.cls[c]? = some cl → cl.str = some f → ∃ fn, P.fns[f]? = some fn ∧ (f, 1, [], []) ∈ pat ∧ fn.np = 1 ∧ fn.fresh = false) (hr : RoomG (k + 2) X.A) (hu : X.A.units + 65 < cLine)
    (hg : Gl X "str") (hm : X.mg "str" = none) (hs : starEach [a] X.env = (false, eval a X.env) :: starEach [] X.env) (ha : PE X a (TE_ X.K ct W .dn (ev P F Γ xa).e)) : PE X (.Call (.Name "str" p) [a] [] pos) (TE_ X.K ct W m (ev P F Γ (.stro xa)).e) := by
  refine ⟨fun pins s σ H Qv I ⟨U, S, ρ, Q, E, ok, sl, r, po, px⟩ => ?_⟩
  refine wpAny_Call_Name_kw (ld_blt I hg hm (show bootBuiltins ("str" : Str) = some (.type "str") by decide +kernel) ?_ (by decide) (by decide))
  have h1 : tCons (TE_ X.K ct W .dn (ev P F Γ xa).e) tNil σ H fun vs H1 => ∃ v U1 S1 d, vs = [v] ∧ Stp U H U1 H1 ∧ Ok X.K ct U1 S1 H1 ∧ Dn X.K ct U1 H1 v d ∧ ownX P F Γ (·.str) d [] S1 (strQ Q) :=
    ⟨U, S, ρ, _, E, ok, sl, r, fun v d U1 S1 H1 s1 o1 m1 q1 => ⟨v, U1, S1, d, rfl, s1, o1, m1, q1⟩, px⟩
  refine PyProof.Rows.callWith_type1 (thn ((pa_cons ha pa_nil hs).run pos pins s σ H _ I h1) fun us s1 ⟨vs, H1, I1, r1, v, U1, S1, d, ev, t1, o1, b1, q1⟩ => ?_) hs rfl
  subst ev
  obtain ⟨u, rfl, ru⟩ := vals1 r1
  obtain ⟨c, fs, cl, g, e1, e2, e3, e4⟩ := ownX_ok q1
  obtain ⟨fn, f1, f2, f3, f4⟩ := hpat c cl g e2 e3
  obtain ⟨q, dx, xs, rfl, hq, l⟩ := inst_at o1 (.of b1) e1
  cases (show u = .ref q from ru)
  obtain ⟨mA, O, _⟩ := ins_get I1.hok hq
  obtain ⟨od, J, _⟩ := O.look
  obtain ⟨g1, g2⟩ := (CF c cl e2).str_ g e3
  have hu2 : X.A.in1.in1.units < cLine := by show X.A.units + 1 + 1 < cLine; omega
  refine PySem.W.kso_call hu2 I1.kIn J g1 (beq_iff_eq.mpr g2) ?_
  refine own_runs (vs := [.ref q]) FA hr.in1.in1 I1.env0.in1.in1 I1 f1 f2 f3 f4 rfl (.cons rfl .nil) o1 (.cons (.of b1) .nil) e4 fun r dr U' S' H' w' s' st' o' dn qq I' rw' => ?_
  cases dr with
  | str x =>
    cases dn
    obtain ⟨t, rfl⟩ := rw'
    exact ⟨.str x, H', I', ⟨_, rfl⟩, po _ _ U' S' H' (t1.trans o1 st') o' (.flat (.str x) fun _ e => nomatch e) qq⟩
  | _ => exact qq.elim
/-- the type of data of a built-in type -/
def bltT : D → String
  | .none => "NoneType" | .bool _ => "bool" | .int _ => "int" | .str _ => "str" | .lst _ => "list" | .tup _ => "tuple" | _ => "dict"
theorem blt_sub {K : PySem.W.Frag} {C : Addr} : ∀ d : D, PySem.W.notFirst K C (.type (bltT d)) = true := by
  have key : ∀ T : String, (T = "NoneType" ∨ T = "bool" ∨ T = "int" ∨ T = "str" ∨ T = "list" ∨ T = "tuple" ∨ T = "dict") → PySem.W.subIn K (.type T) (.ref C) = some false := by
    intro T h
    rcases h with rfl | rfl | rfl | rfl | rfl | rfl | rfl
    · show (fastBuiltinMro "NoneType").map (·.contains (.ref C)) = some false; rfl
    · show (fastBuiltinMro "bool").map (·.contains (.ref C)) = some false; rfl
    · show (fastBuiltinMro "int").map (·.contains (.ref C)) = some false; rfl
    · show (fastBuiltinMro "str").map (·.contains (.ref C)) = some false; rfl
    · show (fastBuiltinMro "list").map (·.contains (.ref C)) = some false; rfl
    · show (fastBuiltinMro "tuple").map (·.contains (.ref C)) = some false; rfl
    · show (fastBuiltinMro "dict").map (·.contains (.ref C)) = some false; rfl
  intro d
  unfold PySem.W.notFirst
  rw [Bool.or_eq_true]
  refine .inr (beq_iff_eq.mpr (key _ ?_))
  cases d <;> simp [bltT]
theorem blt_type {pins : List (Addr × Obj)} {σ : L2.St} {H : Hp} {s : Shared} {U : Um} {M : Model} (I : Inv X pins σ H s) {v : V} {d : D} {u : Value} (h : Dn X.K ct U H v d) (hb : bltD d = true) (r : RelV v u) : PySem.W.Looks M s.heap (typeOf u) (.type (bltT d)) := by
  cases h with
  | non => cases r; exact .of_pure rfl
  | bl b => cases r; exact .of_pure rfl
  | int i => obtain ⟨t, rfl⟩ := r; exact .of_pure rfl
  | str x => obtain ⟨t, rfl⟩ := r; exact .of_pure rfl
  | lst k h l =>
    cases r
    obtain ⟨its, rv, ⟨o, n, ho, hc, _, hd⟩, _⟩ := I.list (.of h)
    exact hc ▸ (PySem.W.Looks.ld ho).andThen .now
  | tup k h _ l =>
    cases r
    obtain ⟨its, rv, ⟨o, ho, hc, n, hd⟩, _⟩ := I.tuple (.inl (.inr ⟨_, h⟩))
    exact hc ▸ (PySem.W.Looks.ld ho).andThen .now
  | sd k h =>
    cases r
    obtain ⟨es, n, as, ho, _⟩ := sd_read I h
    exact (PySem.W.Looks.ld ho).andThen .now
  | _ => cases hb
/-- x == y, x != y, x an instance -/
def rEqo (K : PySem.W.Frag) (ct : CT) (P : Prog) (F : Fsem) (Γ : List Clo) (ne : Bool) : R2 := fun x y H Qv => ∃ U S dx dy Q, Ok K ct U S H ∧ Dn K ct U H x dx ∧ Dn K ct U H y dy ∧ sameC dx dy S ∧ ownX P F Γ (·.eq) dx [dy] S (boolQ ne Q) ∧
  ∀ c U' S' H', Stp U H U' H' → Ok K ct U' S' H' → Q c S' → Qv (.bl c) H'
def eqOp (ne : Bool) : CmpOp := if ne = true then .NotEq else .Eq
theorem op_eqo {ne : Bool} (CF : ∀ c cl, P.cls[c]? = some cl → ClF X.K ct ats c cl) (FA : FAll X ct P F Γ k fdm pat) (hpat : ∀ (c : Nat) (cl : Cl) (f : Nat), P.cls[c]? = some cl → cl.eq = some f → ∃ fn, P.fns[f]? = some fn ∧ (f, 2, [], []) ∈ pat ∧ fn.np = 2 ∧ fn.fresh = false) (hr : RoomG (k + 1) X.A) (hu : X.A.units + 65 < cLine) :
    OpR X (compareOp (eqOp ne)) (rEqo X.K ct P F Γ ne) := by
  intro pins s σ H x y v u Qv I rx ry ⟨U, S, dx, dy, Q, ok, hx, hy, sc, q, po⟩
  obtain ⟨c, fs, cl, g, e1, e2, e3, e4⟩ := ownX_ok q
  obtain ⟨fn, f1, f2, f3, f4⟩ := hpat c cl g e2 e3
  unfold sameC at sc
  rw [e1] at sc
  obtain ⟨q1, d1, x1, rfl, h1, _⟩ := inst_at ok (.of hx) e1
  cases (show v = .ref q1 from rx)
  obtain ⟨mA, O, _⟩ := ins_get I.hok h1
  obtain ⟨od, J, _⟩ := O.look
  have two : ∃ tb, PySem.W.Looks (model X.prog X.w) s.heap (typeOf u) tb ∧ PySem.W.notFirst X.K (ct.ad c) tb = true := by
    cases e5 : clsOf dy S with
    | none =>
      simp only [e5] at sc
      exact ⟨_, blt_type I hy sc ry, blt_sub dy⟩
    | some cf =>
      obtain ⟨c', gs⟩ := cf
      simp only [e5] at sc
      subst sc
      obtain ⟨q2, d2, x2, rfl, h2, _⟩ := inst_at ok (.of hy) e5
      cases (show u = .ref q2 from ry)
      obtain ⟨mA', O', _⟩ := ins_get I.hok h2
      obtain ⟨od', J', _⟩ := O'.look
      exact ⟨_, J'.type, by simp [PySem.W.notFirst]⟩
  obtain ⟨tb, t1, t2⟩ := two
  obtain ⟨g1, g2, g3⟩ := (CF c cl e2).eq_ g e3
  have key : ∀ (A : Around), RoomG k A → Env0 X.prog X.w X.K X.mg X.base A X.stack s H → ∀ (E' : Value → Shared → Prop),
      wpAny (model X.prog X.w) A (call (.ref (ct.fa g)) [.ref q1, u]) (fun w' s' => ∃ c', w' = .bool c' ∧ ∃ H', Inv X pins σ H' s' ∧ Qv (.bl (c' ^^ ne)) H') E' s := fun A hA eA E' =>
    own_runs (vs := [.ref q1, y]) FA hA eA I f1 f2 f3 f4 rfl (.cons rfl (.cons ry .nil)) ok (.cons (.of hx) (.cons (.of hy) .nil)) e4 fun r dr U' S' H' w' s' st' o' dn qq I' rw' => by
      cases dr with
      | bool z =>
        cases dn
        cases (show w' = .bool z from rw')
        exact ⟨z, rfl, H', I', po _ U' S' H' st' o' qq⟩
      | _ => exact qq.elim
  have hu1 : X.A.in1.units < cLine := by show X.A.units + 1 < cLine; omega
  obtain ⟨mm, hF⟩ := I.fr
  cases ne with
  | true =>
    show wpAny (model X.prog X.w) X.A (richCompare .NotEq (.ref q1) u) _ _ s
    refine ne_Ko (by omega) hu1 I.kIn J t1 t2 g3 g1 (beq_iff_eq.mpr g2) (CF c cl e2).isf.hm (wpAny_mono (key _ hr.in1 I.env0.in1 X.xe) (fun w' s' ⟨z, ez, H', I', qq⟩ => ⟨z, ez, .bl (!z), H', I', rfl, by simpa using qq⟩) fun _ _ h => h)
  | false =>
    show wpAny (model X.prog X.w) X.A (richCompare .Eq (.ref q1) u) _ _ s
    refine PySem.W.cmp_K (op := .Eq) (tb := tb) (by omega) hF I.ok.mod.kin J t1 t2 g1 (beq_iff_eq.mpr g2) (wpAny_mono (key _ (hr.mono (Nat.le_succ k)) I.env0 X.xe) (fun w' s' ⟨z, ez, H', I', qq⟩ => ?_) fun _ _ h => h)
    subst ez
    exact ⟨.bl z, H', I', rfl, by simpa using qq⟩
/-- x in y, y an instance -/
def rIno (K : PySem.W.Frag) (ct : CT) (P : Prog) (F : Fsem) (Γ : List Clo) (ng : Bool) : R2 := fun x y H Qv => ∃ U S dx dy Q, Ok K ct U S H ∧ Dn K ct U H x dx ∧ Dn K ct U H y dy ∧ ownX P F Γ (·.has) dy [dx] S (boolQ ng Q) ∧
  ∀ c U' S' H', Stp U H U' H' → Ok K ct U' S' H' → Q c S' → Qv (.bl c) H'
def inOp (ng : Bool) : CmpOp := if ng = true then .NotIn else .In
theorem op_ino {ng : Bool} (CF : ∀ c cl, P.cls[c]? = some cl → ClF X.K ct ats c cl) (FA : FAll X ct P F Γ k fdm pat) (hpat : ∀ (c : Nat) (cl : Cl) (f : Nat), P.cls[c]? = some cl → cl.has = some f → ∃ fn, P.fns[f]? = some fn ∧ (f, 2, [], []) ∈ pat ∧ fn.np = 2 ∧ fn.fresh = false) (hr : RoomG (k + 1) X.A) :
    OpR X (compareOp (inOp ng)) (rIno X.K ct P F Γ ng) := by
  intro pins s σ H x y v u Qv I rx ry ⟨U, S, dx, dy, Q, ok, hx, hy, q, po⟩
  obtain ⟨c, fs, cl, g, e1, e2, e3, e4⟩ := ownX_ok q
  obtain ⟨fn, f1, f2, f3, f4⟩ := hpat c cl g e2 e3
  obtain ⟨q1, d1, x1, rfl, h1, _⟩ := inst_at ok (.of hy) e1
  cases (show u = .ref q1 from ry)
  obtain ⟨mA, O, _⟩ := ins_get I.hok h1
  obtain ⟨od, J, _⟩ := O.look
  obtain ⟨g1, g2⟩ := (CF c cl e2).has_ g e3
  obtain ⟨mm, hF⟩ := I.fr
  have key : wpAny (model X.prog X.w) X.A (call (.ref (ct.fa g)) [.ref q1, v]) (fun w' s' => ∃ c', w' = .bool c' ∧ ∃ H', Inv X pins σ H' s' ∧ Qv (.bl (c' ^^ ng)) H') X.xe s :=
    own_runs (vs := [.ref q1, x]) FA (hr.mono (Nat.le_succ k)) I.env0 I f1 f2 f3 f4 rfl (.cons rfl (.cons rx .nil)) ok (.cons (.of hy) (.cons (.of hx) .nil)) e4 fun r dr U' S' H' w' s' st' o' dn qq I' rw' => by
      cases dr with
      | bool z =>
        cases dn
        cases (show w' = .bool z from rw')
        exact ⟨z, rfl, H', I', po _ U' S' H' st' o' qq⟩
      | _ => exact qq.elim
  cases ng with
  | true =>
    refine PySem.W.notIn_K hF I.ok.mod.kin J g1 (beq_iff_eq.mpr g2) (wpAny_mono key (fun w' s' ⟨z, ez, H', I', qq⟩ => ?_) fun _ _ h => h)
    subst ez
    exact wpAny_truthy_bool ⟨.bl (!z), H', I', rfl, by simpa using qq⟩
  | false =>
    refine PySem.W.in_K hF I.ok.mod.kin J g1 (beq_iff_eq.mpr g2) (wpAny_mono key (fun w' s' ⟨z, ez, H', I', qq⟩ => ?_) fun _ _ h => h)
    subst ez
    exact wpAny_truthy_bool ⟨.bl z, H', I', rfl, by simpa using qq⟩
theorem x_ino {ng : Bool} (ho : OpR X (compareOp (inOp ng)) (rIno X.K ct P F Γ ng)) (hm : behindInMarks (inOp ng) b = false) (ha : PE X a (TE_ X.K ct W .dn (ev P F Γ xa).e)) (hb : PE X b (TE_ X.K ct W .dn (ev P F Γ xb).e)) :
    PE X (.Compare a [inOp ng] [b] pos) (TE_ X.K ct W m (ev P F Γ (.inso ng xa xb)).e) :=
  PE.imp (pe_cmpR ho ha hb hm) fun σ H Qv ⟨U, S, ρ, Q, E, ok, sl, r, po, px⟩ =>
    te_two ok sl px r fun v x U1 S1 H1 w y U2 S2 H2 s1 o1 m1 s2 o2 m2 q => ⟨U2, S2, x, y, _, o2, Dn.stp m1 o1 s2, m2, q, fun c U' S' H' s' o' qc => po _ _ U' S' H' ((s1.trans o1 s2).trans o2 s') o' (.flat (.bl c) fun _ e => nomatch e) qc⟩
theorem t_ino {ng : Bool} (ho : OpR X (compareOp (inOp ng)) (rIno X.K ct P F Γ ng)) (hm : behindInMarks (inOp ng) b = false) (ha : PE X a (TE_ X.K ct W .dn (ev P F Γ xa).e)) (hb : PE X b (TE_ X.K ct W .dn (ev P F Γ xb).e)) :
    PT X (.Compare a [inOp ng] [b] pos) (TT_ X.K ct W (ev P F Γ (.inso ng xa xb)).t) :=
  PT.imp (pt_cmpR ho ha hb hm) fun σ H Qv ⟨U, S, ρ, Q, E, ok, sl, r, po, px⟩ =>
    te_two ok sl px r fun v x U1 S1 H1 w y U2 S2 H2 s1 o1 m1 s2 o2 m2 q => ⟨U2, S2, x, y, _, o2, Dn.stp m1 o1 s2, m2, q, fun c U' S' H' s' o' qc => ⟨c, rfl, po c U' S' H' ((s1.trans o1 s2).trans o2 s') o' qc⟩⟩
/-- bool(x), x an instance -/
theorem x_boolo (CF : ∀ c cl, P.cls[c]? = some cl → ClF X.K ct ats c cl) (FA : FAll X ct P F Γ k fdm pat) (hpat : ∀ (c : Nat) (cl : Cl) (f : Nat), P.cls[c]? = some cl → cl.tru = some f → ∃ fn, P.fns[f]? = some fn ∧ (f, 1, [], []) ∈ pat ∧ fn.np = 1 ∧ fn.fresh = false) (hr : RoomG (k + 2) X.A)
    (hg : Gl X "bool") (hm : X.mg "bool" = none) (hs : starEach [a] X.env = (false, eval a X.env) :: starEach [] X.env) (ha : PE X a (TE_ X.K ct W .dn (ev P F Γ xa).e)) : PE X (.Call (.Name "bool" p) [a] [] pos) (TE_ X.K ct W m (ev P F Γ (.boolo xa)).e) := by
  refine ⟨fun pins s σ H Qv I ⟨U, S, ρ, Q, E, ok, sl, r, po, px⟩ => ?_⟩
  refine wpAny_Call_Name_kw (ld_blt I hg hm (show bootBuiltins ("bool" : Str) = some (.type "bool") by decide +kernel) ?_ (by decide) (by decide))
  have h1 : tCons (TE_ X.K ct W .dn (ev P F Γ xa).e) tNil σ H fun vs H1 => ∃ v U1 S1 d, vs = [v] ∧ Stp U H U1 H1 ∧ Ok X.K ct U1 S1 H1 ∧ Dn X.K ct U1 H1 v d ∧ ownX P F Γ (·.tru) d [] S1 (boolQ false fun b S => Q (.bool b) S) :=
    ⟨U, S, ρ, _, E, ok, sl, r, fun v d U1 S1 H1 s1 o1 m1 q1 => ⟨v, U1, S1, d, rfl, s1, o1, m1, q1⟩, px⟩
  refine PyProof.Rows.callWith_type1 (thn ((pa_cons ha pa_nil hs).run pos pins s σ H _ I h1) fun us s1 ⟨vs, H1, I1, r1, v, U1, S1, d, ev, t1, o1, b1, q1⟩ => ?_) hs rfl
  subst ev
  obtain ⟨u, rfl, ru⟩ := vals1 r1
  obtain ⟨c, fs, cl, g, e1, e2, e3, e4⟩ := ownX_ok q1
  obtain ⟨fn, f1, f2, f3, f4⟩ := hpat c cl g e2 e3
  obtain ⟨q, dx, xs, rfl, hq, l⟩ := inst_at o1 (.of b1) e1
  cases (show u = .ref q from ru)
  obtain ⟨mA, O, _⟩ := ins_get I1.hok hq
  obtain ⟨od, J, _⟩ := O.look
  obtain ⟨g1, g2⟩ := (CF c cl e2).tru_ g e3
  obtain ⟨mm, hF⟩ := I1.fr
  refine call_bool_own hF I1.ok.mod.kin J g1 (beq_iff_eq.mpr g2) ?_
  refine own_runs (vs := [.ref q]) FA hr.in1.in1 I1.env0.in1.in1 I1 f1 f2 f3 f4 rfl (.cons rfl .nil) o1 (.cons (.of b1) .nil) e4 fun r dr U' S' H' w' s' st' o' dn qq I' rw' => ?_
  cases dr with
  | bool z =>
    cases dn
    cases (show w' = .bool z from rw')
    exact ⟨.bl z, H', I', rfl, po _ _ U' S' H' (t1.trans o1 st') o' (.flat (.bl z) fun _ e => nomatch e) (by simpa [boolQ] using qq)⟩
  | _ => exact qq.elim
theorem x_eqo {ne : Bool} (ho : OpR X (compareOp (eqOp ne)) (rEqo X.K ct P F Γ ne)) (hm : behindInMarks (eqOp ne) b = false) (ha : PE X a (TE_ X.K ct W .dn (ev P F Γ xa).e)) (hb : PE X b (TE_ X.K ct W .dn (ev P F Γ xb).e)) :
    PE X (.Compare a [eqOp ne] [b] pos) (TE_ X.K ct W m (ev P F Γ (.eqo ne xa xb)).e) :=
  PE.imp (pe_cmpR ho ha hb hm) fun σ H Qv ⟨U, S, ρ, Q, E, ok, sl, r, po, px⟩ =>
    te_two ok sl px r fun v x U1 S1 H1 w y U2 S2 H2 s1 o1 m1 s2 o2 m2 q => ⟨U2, S2, x, y, _, o2, Dn.stp m1 o1 s2, m2, q.1, q.2, fun c U' S' H' s' o' qc => po _ _ U' S' H' ((s1.trans o1 s2).trans o2 s') o' (.flat (.bl c) fun _ e => nomatch e) qc⟩
theorem t_eqo {ne : Bool} (ho : OpR X (compareOp (eqOp ne)) (rEqo X.K ct P F Γ ne)) (hm : behindInMarks (eqOp ne) b = false) (ha : PE X a (TE_ X.K ct W .dn (ev P F Γ xa).e)) (hb : PE X b (TE_ X.K ct W .dn (ev P F Γ xb).e)) :
    PT X (.Compare a [eqOp ne] [b] pos) (TT_ X.K ct W (ev P F Γ (.eqo ne xa xb)).t) :=
  PT.imp (pt_cmpR ho ha hb hm) fun σ H Qv ⟨U, S, ρ, Q, E, ok, sl, r, po, px⟩ =>
    te_two ok sl px r fun v x U1 S1 H1 w y U2 S2 H2 s1 o1 m1 s2 o2 m2 q => ⟨U2, S2, x, y, _, o2, Dn.stp m1 o1 s2, m2, q.1, q.2, fun c U' S' H' s' o' qc => ⟨c, rfl, po c U' S' H' ((s1.trans o1 s2).trans o2 s') o' qc⟩⟩
/-- [x, *y] -/
theorem x_lstar {sp_ : Pos} (hs : starEach [a, .Starred b sp_] X.env = (false, eval a X.env) :: starEach [.Starred b sp_] X.env) (ha : PE X a (TE_ X.K ct W .dn (ev P F Γ xa).e)) (hb : PE X b (TE_ X.K ct W .bn (ev P F Γ xb).e)) :
    PE X (.List [a, .Starred b sp_] pos) (TE_ X.K ct W m (ev P F Γ (.lstar (.cons xa .nil) xb)).e) :=
  PE.imp (pe_lst (pa_cons ha (StX.pa_star hb pa_nil rfl) hs)) fun σ H Qv ⟨U, S, ρ, Q, E, ok, sl, r, po, px⟩ =>
    te_two ok sl px r fun v x U1 S1 H1 w y U2 S2 H2 s1 o1 m1 s2 o2 m2 q => by
      have key : ∀ (ys : List V) (ds : List D), DnL X.K ct U2 H2 ys ds → [x].length + ds.length ≤ Sb.sl ∧ Q (.lst ([x] ++ ds)) S2 → (v :: (ys ++ [])).length ≤ sizeLine ∧ ∀ p, H2 p = none → Qv (.ref p) (upd H2 p (.lst (v :: (ys ++ [])))) := fun ys ds l ⟨z, qq⟩ => by
        rw [List.append_nil]
        refine ⟨by rw [List.length_cons, l.length, ← sl_line]; simp only [List.length_cons, List.length_nil] at z; omega, fun p hp => ?_⟩
        exact po _ _ U2 S2 _ ((s1.trans o1 s2).trans o2 (Stp.new hp)) (o2.new hp) (.ofFr (.new o2 (none_back (s1.trans o1 s2) o2 hp) hp (.cons (Dn.stp m1 o1 s2) l))) qq
      cases y with
      | tup ds =>
        obtain ⟨q1, ob, ys, rfl, k1, h1, pt, l⟩ := Bn.seqT m2
        exact ⟨q1, ys, rfl, .inl (.inl (.inr ⟨_, h1⟩)), key ys ds l q⟩
      | lst ds =>
        obtain ⟨q1, ys, rfl, h1, l⟩ := Bn.seqL m2
        exact ⟨q1, ys, rfl, .inr (.inl (.inl h1)), key ys ds l q⟩
      | _ => exact q.elim
/-- cls(..) in a classmethod -/
theorem x_mkv {c i : Nat} {cl : Cl} {fn : Fn} {n : Str} (hcl : P.cls[c]? = some cl) (hfn : P.fns[cl.init]? = some fn) (CF : ClF X.K ct ats c cl) (FA : FAll X ct P F Γ k fdm pat) (hp : (cl.init, es.length + 1, [], []) ∈ pat) (hfr : fn.fresh = false) (hr : RoomG (k + 1) X.A) (tk : Takes X W)
    (hN : X.N[i]? = some n) (hv : Vis X.env.scope n) (hd : (n == ("__debug__" : Str)) = false) (hcd : (n == ("__classdict__" : Str)) = false) (hmr : m ≠ .fr)
    (hpl : ((backTo pos (starEach es X.env)).any (·.1) || (backToKw pos (keywordEach [] X.env)).any (·.1.isNone)) = false) (hn : es = [] → xa = .nil) (he : ∀ e r, es = e :: r → starEach es X.env = (false, eval e X.env) :: starEach r X.env)
    (ha : PA X es (TA_ X.K ct W .an es.length (ev P F Γ xa).l)) :
    PE X (.Call (.Name n p) es [] pos) (TE_ X.K ct W m (ev P F Γ (.mkv c i xa)).e) := by
  refine ⟨fun pins s σ H Qv I ⟨U, S, ρ, Q, E, ok, sl, r, po, px⟩ => ?_⟩
  have r : (match ρ[i]? with
    | some (some (.cls c')) => c' = c ∧ (ev P F Γ xa).l ρ S (fun ds S => mkD P F Γ c [] ds S Q E) E
    | _ => False) := r
  split at r
  · rename_i c' e
    obtain ⟨rfl, r⟩ := r
    obtain ⟨v, h1, h2⟩ := sl.get i _ e
    have ev1 : v = .ref (ct.ad c') := by
      cases h2 with
      | of h => cases h; rfl
    subst ev1
    refine wpAny_Call_Name_kw (thn ((pe_var hN hv hd hcd).run pins s σ H (fun v H1 => v = .ref (ct.ad c') ∧ H1 = H) I ⟨_, h1, rfl, rfl⟩) fun u s1 ⟨v, H1, I1, rv, ev2, eH⟩ => ?_)
    subst ev2 eH
    cases (show u = .ref (ct.ad c') from rv)
    exact mk_run (xb := .nil) I1 hcl hfn CF FA hp rfl hfr hr tk hmr (by rfl) (by rfl) hpl hn he ha k_nil ⟨U, S, ρ, Q, E, ok, sl, by
      show (ev P F Γ xa).l ρ S (fun ds S => ([] : List D).length = ([] : List Nat).length ∧ mkD P F Γ c' [] (ds ++ []) S Q E) E
      simpa using r, po, px⟩
  · exact r.elim
/-- o.m(..), few values -/
theorem meth_of {M : Model} {A : Around} {E : Value → Shared → Prop} {s : Shared} {env : PySem.Env} {o : Expr} {name : Str} {apos pos : Pos} {args : List Expr} {kws : List Keyword} {Q : Value → Shared → Prop}
    (hbase : attributeBase o name env (eval o env) = eval o env)
    (hform : methodCallForm (args.length + kws.length) (backTo pos (starEach args env)) (backToKw pos (keywordEach kws env)) = true)
    (hline : (apos.endLine == pos.line) = true)
    (h : wpAny M A (eval o env) (fun ov s₁ => wpAny M A (getMethod ov name (do return (← importBound o env).getD true)) (fun fx s₂ => wpAny M A (callWith pos fx.1 fx.2 (backTo pos (starEach args env)) (backToKw pos (keywordEach kws env))) Q E s₂) E s₁) E s) :
    wpAny M A (eval (.Call (.Attribute o name apos) args kws pos) env) Q E s := by
  rw [arm_eval_Call, hbase]
  refine wpAny_bind (wpAny_mono h (fun ov s₁ h₁ => ?_) fun _ _ e => e)
  refine wpAny_bind (wpAny_standAt ?_)
  have hpos : methodCallPos true o env apos pos = pure pos := by unfold methodCallPos; simp [hline]
  unfold methodCall
  rw [hform]
  refine wpAny_bind (wpAny_holding (wpAny_mono h₁ (fun fx s₂ h₂ => ?_) fun _ _ e => e))
  obtain ⟨f, first⟩ := fx
  exact wpAny_bind (wpAny_of_eq hpos h₂)
/-- C.m(..), m a classmethod -/
theorem x_cmt {c f : Nat} {fn : Fn} {x mth : Str} {mc : Value} {pr : Addr} (hfn : P.fns[f]? = some fn) (r : ClX.CRead X.K (ct.ad c) mc) (cm : ClX.CMet X.K (ct.ad c) mc mth pr (ct.fa f)) (FA : FAll X ct P F Γ k fdm pat) (hp : (f, es.length + 2, [], []) ∈ pat) (hnp : fn.np = es.length + 2) (hr : RoomG (k + 1) X.A) (tk : Takes X W) (hg : Gl X x) (hm : X.mg x = some (.ref (ct.ad c)))
    (hdb : (x == ("__debug__" : Str)) = false) (hmr : m ≠ .fr) (hbase : attributeBase (.Name x p) mth X.env (eval (.Name x p) X.env) = eval (.Name x p) X.env)
    (hform : methodCallForm ((e :: es).length + ([] : List Keyword).length) (backTo pos (starEach (e :: es) X.env)) (backToKw pos (keywordEach [] X.env)) = true) (hline : (apos.endLine == pos.line) = true)
    (hs : starEach (e :: es) X.env = (false, eval e X.env) :: starEach es X.env) (hpl : (backTo pos (starEach es X.env)).any (·.1) = false) (ha : PA X (e :: es) (TA_ X.K ct W .an (es.length + 1) (ev P F Γ xa).l)) :
    PE X (.Call (.Attribute (.Name x p) mth apos) (e :: es) [] pos) (TE_ X.K ct W m (ev P F Γ (.cmt c f xa .nil [])).e) := by
  refine ⟨fun pins s σ H Qv I ⟨U, S, ρ, Q, E, ok, sl, h, po, px⟩ => ?_⟩
  have h' : TA_ X.K ct W .an (es.length + 1) (ev P F Γ xa).l σ H fun vs H1 => ∃ U1 S1 ds Q E, vs.length = es.length + 1 ∧ Ok X.K ct U1 S1 H1 ∧ Paired (fun d v => AnV X.K ct U1 H1 v d) ds vs ∧ callD P F Γ f [] (.cls c :: ds) S1 Q E ∧ Po X.K ct m U1 H1 Q Qv ∧ Px X.K ct W U1 H1 E σ :=
    ⟨U, S, ρ, _, E, ok, sl, h, fun vs ds U1 S1 H1 l1 s1 o1 m1 q1 => ⟨U1, S1, ds, Q, E, l1, o1, m1.an, by simpa using q1.2, po.stp s1 o1, px.stp s1 o1⟩, px⟩
  refine meth_of hbase hform hline (ld_glob I hg hm ?_ hdb)
  refine ClX.getmethcm_ok I r cm fun s2 I2 => ?_
  refine ClX.callwith_cm I2 (ClX.base_none I (Nat.le_refl _)) cm.fi (thn (ha.run pos _ s2 σ H _ I2 h') fun us s3 ⟨vs, H2, I3, rv, U1, S1, ds, Q, E, l1, o1, p1, q1, po1, px1⟩ => ⟨⟨ClX.pin_at I3, I3.kIn⟩, ?_⟩) hs hpl
  obtain ⟨fn', args, e1, e2, e3⟩ := callD_ok q1
  rw [hfn] at e1; cases e1
  have hlen : (D.cls c :: ds).length = fn.np := by rw [List.length_cons, paired_len p1, l1, hnp]
  rw [← hlen, bindK_all] at e2
  cases e2
  obtain ⟨hl, G⟩ := FA.fn f fn hfn
  have hb : BindsTo s3 (fdm f) ⟨.ref (ct.ad c) :: us, []⟩ ((fn.names.take fn.np).zip (.ref (ct.ad c) :: us)) := bindAll (FA.pt f _ _ _ fn hp hfn) (by rw [hl, hnp]) (by rw [List.length_cons, ← rv.length, l1]) I3.kIn
  have z : wpAny (model X.prog X.w) X.A (call (.ref s.heap.objs.size) us) (EP X ((s.heap.objs.size, PySem.W.methodObj (.ref (ct.fa f)) (.ref (ct.ad c))) :: pins) σ Qv) X.xe s3 := by
    refine wpAny_call (PySem.W.method_call (ClX.pin_at I3) (codeAny_mono (G X.A X.stack s3 H2 ⟨.ref (ct.ad c) :: us, []⟩ (.ref (ct.ad c) :: us) (.ref (ct.ad c) :: vs) Qv (fun cls d H' => W cls d σ H') (hr.mono (Nat.le_succ k)) I3.env0 hb (.cons rfl rv)
      ⟨U1, S1, .cls c :: ds, Q, E, o1, .cons (.of (.cls c)) p1, e3, po1.moR (.inl hmr), fun cls da x U' S' H' s' o' xn q => px1 cls da x U' S' H' s' o' xn q⟩) fun r s' hq => ?_))
    cases r with
    | error e => exact passAt tk σ _ _ _ e s' I3 hq
    | ok fl =>
      cases fl with
      | ret u => exact I3.after hq
      | next => exact False.elim hq
      | brk => exact False.elim hq
      | cont => exact False.elim hq
  exact thn z fun _ _ y => ClX.unpinE y
/-- C.m(x=..), m a classmethod -/
theorem x_cmtk {c f : Nat} {fn : Fn} {x mth : Str} {mc : Value} {pr : Addr} {kws : List Keyword} {ks : List Str} {idx : List Nat} (hfn : P.fns[f]? = some fn) (r : ClX.CRead X.K (ct.ad c) mc) (cm : ClX.CMet X.K (ct.ad c) mc mth pr (ct.fa f)) (FA : FAll X ct P F Γ k fdm pat) (hp : (f, 1, ks, idx) ∈ pat) (hkl : ks.length = kws.length) (hr : RoomG (k + 1) X.A) (tk : Takes X W) (hg : Gl X x) (hm : X.mg x = some (.ref (ct.ad c)))
    (hdb : (x == ("__debug__" : Str)) = false) (hmr : m ≠ .fr) (hbase : attributeBase (.Name x p) mth X.env (eval (.Name x p) X.env) = eval (.Name x p) X.env)
    (hall : (backToKw pos (keywordEach kws X.env)).all (·.1.isSome) = true) (hks : (backToKw pos (keywordEach kws X.env)).filterMap (·.1) = ks)
    (hform : methodCallForm (([] : List Expr).length + kws.length) (backTo pos (starEach [] X.env)) (backToKw pos (keywordEach kws X.env)) = true) (hline : (apos.endLine == pos.line) = true)
    (hpl : ((backTo pos (starEach [] X.env)).any (·.1) || (backToKw pos (keywordEach kws X.env)).any (·.1.isNone)) = false) (hkw : PK X kws (TA_ X.K ct W .an kws.length (ev P F Γ xb).l)) :
    PE X (.Call (.Attribute (.Name x p) mth apos) [] kws pos) (TE_ X.K ct W m (ev P F Γ (.cmt c f .nil xb idx)).e) := by
  refine ⟨fun pins s σ H Qv I ⟨U, S, ρ, Q, E, ok, sl, h, po, px⟩ => ?_⟩
  have h' : TA_ X.K ct W .an kws.length (ev P F Γ xb).l σ H fun zs H1 => ∃ U1 S1 es' Q E, zs.length = kws.length ∧ Ok X.K ct U1 S1 H1 ∧ Paired (fun d v => AnV X.K ct U1 H1 v d) es' zs ∧ callD P F Γ f idx (.cls c :: es') S1 Q E ∧ Po X.K ct m U1 H1 Q Qv ∧ Px X.K ct W U1 H1 E σ :=
    ⟨U, S, ρ, _, E, ok, sl, h, fun zs es' U1 S1 H1 l1 s1 o1 m1 q1 => ⟨U1, S1, es', Q, E, l1, o1, m1.an, q1.2, po.stp s1 o1, px.stp s1 o1⟩, px⟩
  refine meth_of hbase hform hline (ld_glob I hg hm ?_ hdb)
  refine ClX.getmethcm_ok I r cm fun s2 I2 => ?_
  refine PySem.W.callWith_of (P := PySem.W.MethP X.K s.heap.objs.size (ct.fa f) (.ref (ct.ad c))) hpl (PySem.W.keeps_M cm.fi) (evalArgs_kw2_nil hall (thn (hkw.run pos _ s2 σ H _ I2 h') fun ws s3 ⟨zs, H2, I3, rz, U1, S1, es', Q, E, l1, o1, p1, q1, po1, px1⟩ => ⟨⟨ClX.pin_at I3, I3.kIn⟩, ?_⟩))
  rw [hks]
  obtain ⟨fn', args, e1, e2, e3⟩ := callD_ok q1
  rw [hfn] at e1; cases e1
  obtain ⟨hl, G⟩ := FA.fn f fn hfn
  obtain ⟨dv, du, hdv, hdn, hbind⟩ := (FA.pt f 1 ks idx fn hp hfn).ex
  obtain ⟨full, b1, b2⟩ := hbind s3 [.ref (ct.ad c)] ws I3.kIn rfl (by rw [← rz.length, l1, hkl])
  rw [← hl] at e2
  have p2 : Paired (fun d v => AnV X.K ct U1 H2 v d) (D.cls c :: es') (V.ref (ct.ad c) :: zs) := .cons (.of (.cls c)) p1
  obtain ⟨vfull, b3, b4⟩ := bindK_rel (hdn U1 H2).anP p2 e2
  obtain ⟨full', b5, b6⟩ := bindK_rel (R := RelV) hdv (.cons (show RelV (.ref (ct.ad c)) (.ref (ct.ad c)) from rfl) rz) b3
  have b5' : full' = full := by
    have := b1.symm.trans b5
    exact (Option.some.inj this).symm
  subst b5'
  have z : wpAny (model X.prog X.w) X.A (call (.ref s.heap.objs.size) [] (ks.zip ws)) (EP X ((s.heap.objs.size, PySem.W.methodObj (.ref (ct.fa f)) (.ref (ct.ad c))) :: pins) σ Qv) X.xe s3 := by
    refine wpAny_call (PySem.W.method_call (ClX.pin_at I3) (codeAny_mono (G X.A X.stack s3 H2 ⟨.ref (ct.ad c) :: [], ks.zip ws⟩ full' vfull Qv (fun cls d H' => W cls d σ H') (hr.mono (Nat.le_succ k)) I3.env0 b2 b6
      ⟨U1, S1, args, Q, E, o1, b4, e3, po1.moR (.inl hmr), fun cls da x U' S' H' s' o' xn q => px1 cls da x U' S' H' s' o' xn q⟩) fun r s' hq => ?_))
    cases r with
    | error e => exact passAt tk σ _ _ _ e s' I3 hq
    | ok fl =>
      cases fl with
      | ret u => exact I3.after hq
      | next => exact False.elim hq
      | brk => exact False.elim hq
      | cont => exact False.elim hq
  exact thn z fun _ _ y => ClX.unpinE y
end
end Sb
set_option linter.all false
set_option maxRecDepth 20000
set_option maxHeartbeats 1000000
set_option autoImplicit false
/-! A16: methods of built-in types, isinstance. -/
namespace Sb
open PySem PySem.Spec PyProof.Rows L2
section
variable {X : Cx} {ct : CT} {W : WX} {m : Mo} {P : Prog} {F : Fsem} {Γ : List Clo}
variable {a e : Expr} {es : List Expr} {xa xb : Ex} {pos p : Pos}
theorem rel_strs {U : Um} {H : Hp} {vs : List V} {ds : List D} {ns : List Str} (h : DnL X.K ct U H vs ds) (e : strsD ds = some ns) : vs = ns.map V.str := h.strs e
theorem mr_join : MtR X "str.join" (fun x xs H Q => Recv H x "str" ∧ rMt X.K ct .join x xs H Q) := by
  intro pins s σ H x xs v us Qv I rx rxs ⟨rc, U, S, a, ds, Q, ok, ha, hb, hq, post⟩
  cases a with
  | str z =>
    cases ha.str
    match ds, hb, hq with
    | [.lst es], hb, hq =>
      obtain ⟨y, rfl, b1⟩ := hb.one
      obtain ⟨p, ys, rfl, h, l⟩ := b1.seqL
      obtain ⟨ns, e, h1, h2⟩ := oss_ok hq
      have := l.strs e
      subst this
      exact mt_join pins s σ H _ _ v us Qv I rx rxs ⟨z, p, ns, rfl, rfl, .inl (.inl (.inl h)), h1, post _ _ _ _ Kp.refl ok (Dn.flat (.str _) fun _ e => nomatch e) h2⟩
    | [.tup es], hb, hq =>
      obtain ⟨y, rfl, b1⟩ := hb.one
      obtain ⟨p, o, ys, rfl, k, h, pt, l⟩ := b1.seqT
      obtain ⟨ns, e, h1, h2⟩ := oss_ok hq
      have := l.strs e
      subst this
      exact mt_join pins s σ H _ _ v us Qv I rx rxs ⟨z, p, ns, rfl, rfl, .inr (.inl (.inr ⟨_, h⟩)), h1, post _ _ _ _ Kp.refl ok (Dn.flat (.str _) fun _ e => nomatch e) h2⟩
  | _ => cases ds <;> exact hq.elim
theorem mr_split : MtR X "str.split" (fun x xs H Q => Recv H x "str" ∧ rMt X.K ct .split x xs H Q) := by
  intro pins s σ H x xs v us Qv I rx rxs ⟨rc, U, S, a, ds, Q, ok, ha, hb, hq, post⟩
  cases a with
  | str z =>
    cases ha.str
    match ds, hb, hq with
    | [.str t], hb, hq =>
      obtain ⟨y, rfl, b1⟩ := hb.one
      cases b1.str
      obtain ⟨⟨h1, h2⟩, h3⟩ := hq
      refine mt_split pins s σ H _ _ v us Qv I rx rxs ⟨z, t, rfl, rfl, by simpa using h1, by rw [← sl_line]; exact h2, fun p hp => ?_⟩
      exact post _ _ _ _ (Kp.new hp) (ok.new hp) (Fr_.new ok hp hp (DnL.ofStrs _)) h3
  | _ => cases ds <;> exact hq.elim
theorem mti_ok (hu : X.A.units + 65 < cLine) {mt : Mt} {T id : String} (h : Mti mt T id) : MtOf X ct mt T id ∧ MtR X id (fun x xs H Q => Recv H x T ∧ rMt X.K ct mt x xs H Q) := by
  cases h with
  | li => exact ⟨⟨.li, F.plainAttrs_list, F.slot_list_index, F.type_list_index⟩, mr_list_index hu⟩
  | ti => exact ⟨⟨.ti, F.plainAttrs_tuple, F.slot_tuple_index, F.type_tuple_index⟩, mr_tup_index⟩
  | lc => exact ⟨⟨.lc, F.plainAttrs_list, F.slot_list_count, F.type_list_count⟩, mr_list_count⟩
  | sj => exact ⟨⟨.sj, F.plainAttrs_str, F.slot_str_join, F.type_str_join⟩, mr_join⟩
  | ss => exact ⟨⟨.ss, F.plainAttrs_str, F.slot_str_split, F.type_str_split⟩, mr_split⟩
/-- what receives -/
theorem recv_of {mt : Mt} {U : Um} {S : Store} {H : Hp} {v : V} {d : D} (h : Bn X.K ct U H v d) (e : mtAble mt d = true) : ∃ T id, Mti mt T id ∧ ∀ U' H', Stp U H U' H' → Recv H' v T := by
  cases mt <;> cases d <;> first | cases e | skip
  · obtain ⟨p, o, xs, rfl, k, hp, pt, l⟩ := h.seqT
    exact ⟨_, _, .ti, fun U' H' s => .tup (s.st p _ hp (by rw [k]; decide)) pt⟩
  · obtain ⟨p, xs, rfl, hp, l⟩ := h.seqL
    refine ⟨_, _, .li, fun U' H' s => .lst (s.st p _ hp ?_)⟩
    cases h with
    | of h => cases h with
      | lst k _ _ => rw [k]; decide
    | lst k _ _ => rw [k]; decide
  · obtain ⟨p, xs, rfl, hp, l⟩ := h.seqL
    refine ⟨_, _, .lc, fun U' H' s => .lst (s.st p _ hp ?_)⟩
    cases h with
    | of h => cases h with
      | lst k _ _ => rw [k]; decide
    | lst k _ _ => rw [k]; decide
  · cases h.str
    exact ⟨_, _, .sj, fun U' H' s => .str _⟩
  · cases h.str
    exact ⟨_, _, .ss, fun U' H' s => .str _⟩
theorem x_mt (hu : X.A.units + 65 < cLine) {mt : Mt} {apos cpos : Pos} {n : Nat} (hbase : attributeBase a (nmM mt) X.env (eval a X.env) = eval a X.env)
    (hfew : ((backTo cpos (starEach (e :: es) X.env)).all (fun x => !x.1) && (backToKw cpos (keywordEach [] X.env)).all (fun x => x.1.isSome)
      && decide ((e :: es).length + ([] : List Keyword).length + (if ([] : List Keyword).isEmpty then 0 else 1) < 30)) = true)
    (hline : (apos.endLine == cpos.line) = true) (hs : starEach (e :: es) X.env = (false, eval e X.env) :: starEach es X.env) (hplain : (backTo cpos (starEach es X.env)).any (·.1) = false)
    (ha : PE X a (TE_ X.K ct W .bn (ev P F Γ xa).e)) (hb : PA X (e :: es) (TA_ X.K ct W .bn n (ev P F Γ xb).l)) :
    PE X (.Call (.Attribute a (nmM mt) apos) (e :: es) [] cpos) (TE_ X.K ct W m (ev P F Γ (.mt mt xa xb)).e) :=
  PE.imp (pe_mt (r := rMt X.K ct mt) (fun T id h => (mti_ok hu h.mti).2) ha hb hbase hfew hline hs hplain) fun σ H Qv ⟨U, S, ρ, Q, E, ok, sl, r, po, px⟩ =>
    ⟨U, S, ρ, _, E, ok, sl, r, fun v d U1 S1 H1 s1 o1 m1 ⟨q0, q1⟩ => by
      obtain ⟨T, id, mt', rc⟩ := recv_of (S := S1) m1 q0
      exact ⟨T, id, (mti_ok (X := X) (ct := ct) hu mt').1, rc U1 H1 .refl, U1, S1, ρ, _, E, o1, sl.stp ok s1, q1, fun vs ds U2 S2 H2 _ s2 o2 m2 q2 =>
        ⟨rc U2 H2 s2, U2, S2, d, ds, _, o2, Bn.stp m1 o1 s2, m2.bnl, q2, (po.stp (s1.trans o1 s2) o2).fin o2⟩, px.stp s1 o1⟩, px⟩
/-! ### isinstance -/
/-- the type of data, as a value -/
def tyU (ct : CT) : D → Value
  | .none => .type "NoneType" | .bool _ => .type "bool" | .int _ => .type "int" | .str _ => .type "str"
  | .lst _ => .type "list" | .tup _ => .type "tuple" | .obj c _ => .ref (ct.ad c) | .sd _ => .type "dict" | _ => .none
def tyC (ct : CT) : Ty → Value
  | .int => .type "int" | .bool => .type "bool" | .str => .type "str" | .tuple => .type "tuple" | .list => .type "list" | .dict => .type "dict" | .cls c => .ref (ct.ad c)
def tyV (ct : CT) : Ty → V
  | .int => .ty "int" | .bool => .ty "bool" | .str => .ty "str" | .tuple => .ty "tuple" | .list => .ty "list" | .dict => .ty "dict" | .cls c => .ref (ct.ad c)
theorem tyV_cls (ct : CT) : ∀ t : Ty, ClsV (tyV ct t) (tyC ct t)
  | .int => .ty _ | .bool => .ty _ | .str => .ty _ | .tuple => .ty _ | .list => .ty _ | .dict => .ty _ | .cls c => .own _
theorem x_isi {t : Ty} {e2 : Expr} (hkit : ∀ d : D, isAble d = true → clsIn P d = true → PySem.W.kitOne X.K (tyU ct d) (tyC ct t) = some (tyD d t)) (CF : ∀ c cl, P.cls[c]? = some cl → IsF X.K (ct.ad c) ∧ Cls X.K (ct.ad c))
    (hg : Gl X "isinstance") (hm : X.mg "isinstance" = none) (hs : starEach [a, e2] X.env = (false, eval a X.env) :: starEach [e2] X.env) (hs2 : starEach [e2] X.env = (false, eval e2 X.env) :: starEach [] X.env) (hpl : (backTo pos (starEach [e2] X.env)).any (·.1) = false)
    (ha : PE X a (TE_ X.K ct W .bn (ev P F Γ xa).e)) (ht : PE X e2 (tC (tyV ct t))) : PE X (.Call (.Name "isinstance" p) [a, e2] [] pos) (TE_ X.K ct W m (ev P F Γ (.isi xa [t])).e) := by
  refine PE.imp (pe_callB call_isi hg hm (by decide +kernel) (pa_cons ha (pa_cons ht pa_nil hs2) hs) (by decide) (by decide) hs hpl) fun σ H Qv ⟨U, S, ρ, Q, E, ok, sl, r, po, px⟩ => ?_
  refine ⟨U, S, ρ, _, E, ok, sl, r, fun v d U1 S1 H1 s1 o1 m1 ⟨⟨q0, qc⟩, q1⟩ => ?_, px⟩
  have hres : Qv (.bl (tyD d t)) H1 := po _ _ U1 S1 H1 s1 o1 (.flat (.bl _) fun _ e => nomatch e) (by simpa using q1)
  have fin : TyX X.K H1 v (tyU ct d) → rIsi X.K [v, tyV ct t] H1 Qv := fun ty => ⟨v, tyV ct t, _, _, _, rfl, tyV_cls ct t, ty, hkit d q0 qc, hres⟩
  have b1 : Bn X.K ct U1 H1 v d := m1
  cases d with
  | none => cases b1.non; exact fin (.base .non) 
  | bool b => cases b1.bl; exact fin (.base (.bl _)) 
  | int i => cases b1.int; exact fin (.base (.int _)) 
  | str z => cases b1.str; exact fin (.base (.str _)) 
  | lst ds =>
    obtain ⟨q, xs, rfl, hq, l⟩ := b1.seqL
    exact fin (.base (.lst hq)) 
  | tup ds =>
    obtain ⟨q, o, xs, rfl, k, hq, pt, l⟩ := b1.seqT
    exact fin (.fTuple hq) 
  | obj c fs =>
    obtain ⟨q, dx, xs, rfl, hq, l⟩ := inst_at o1 b1 (show clsOf (.obj c fs) S1 = some (c, fs) from rfl)
    cases hcl : P.cls[c]? with
    | none =>
      have qc : (P.cls[c]?).isSome = true := qc
      rw [hcl] at qc; cases qc
    | some cl =>
      obtain ⟨f1, f2⟩ := CF c cl hcl
      exact fin (.base (.ins hq f2 f1.ha f1.hn f1.htk f1.hm))
  | dct kvs => cases b1 with
    | of h => nomatch h
  | sd l => cases b1 with
    | of h => cases h with
      | sd k h => exact fin (.base (.dK h))
  | _ => cases q0
end
end Sb
set_option linter.all false
set_option maxRecDepth 20000
set_option maxHeartbeats 1000000
set_option autoImplicit false
/-! A17: what a statement of the program does, by its meaning. -/
namespace Sb
open PySem PySem.Spec PyProof.Rows L2
/-- lists of the def's own: each in one slot, younger than the entry -/
structure So (H0 : Hp) (σ : L2.St) (ρ : Env) : Prop where
  one : ∀ (i j : Nat) (p : Addr) (xs ys : List D), ρ[i]? = some (some (.own xs)) → ρ[j]? = some (some (.own ys)) → σ[i]? = some (some (.ref p)) → σ[j]? = some (some (.ref p)) → i = j
  new : ∀ (i : Nat) (p : Addr) (xs : List D), ρ[i]? = some (some (.own xs)) → σ[i]? = some (some (.ref p)) → H0 p = none
  bo : ∀ (i : Nat) (p : Addr) (xs : List D), ρ[i]? = some (some (.bor xs)) → σ[i]? = some (some (.ref p)) → H0 p ≠ none
/-- a def's body, somewhere -/
structure Bd (K : PySem.W.Frag) (ct : CT) (U0 : Um) (H0 : Hp) (U : Um) (S : Store) (H : Hp) (σ : L2.St) (ρ : Env) : Prop where
  ok : Ok K ct U S H
  sl : Sl K ct U H σ ρ
  so : So H0 σ ρ
  st : Stp U0 H0 U H
/-- what no one may change stays -/
def Sh (U : Um) (H : Hp) (U' : Um) (H' : Hp) : Prop := StW U H U' H' ∧ ∀ a, U a = .ce → U' a = .ce
theorem Sh.refl {U : Um} {H : Hp} : Sh U H U H := ⟨.refl, fun _ h => h⟩
theorem Sh.trans {U U1 U2 : Um} {H H1 H2 : Hp} (a : Sh U H U1 H1) (b : Sh U1 H1 U2 H2) : Sh U H U2 H2 := ⟨a.1.trans b.1, fun x h => b.2 x (a.2 x h)⟩
theorem Stp.sh {K : PySem.W.Frag} {ct : CT} {S : Store} {U U1 : Um} {H H1 : Hp} (a : Stp U H U1 H1) (o : Ok K ct U S H) : Sh U H U1 H1 := ⟨a.w, a.ce o⟩
structure KoOk (K : PySem.W.Frag) (ct : CT) (fresh : Bool) (W : WX) (U0 : Um) (H0 : Hp) (Us : Um) (Hs : Hp) (D : Ends) (Kk : Ko) : Prop where
  nx : ∀ U S H σ ρ, Bd K ct U0 H0 U S H σ ρ → Sh Us Hs U H → Kk.nx ρ S → D.nx σ H
  rt : ∀ v d U S H, Stp U0 H0 U H → Ok K ct U S H → Md K ct (moR fresh) H0 U S H v d → Kk.rt d S → D.rt v H
  bk : ∀ U S H σ ρ, Bd K ct U0 H0 U S H σ ρ → Sh Us Hs U H → Kk.bk ρ S → D.bk σ H
  ct_ : ∀ U S H σ ρ, Bd K ct U0 H0 U S H σ ρ → Sh Us Hs U H → Kk.ct ρ S → D.ct σ H
  ex : ∀ cls da x U S H σ ρ, Bd K ct U0 H0 U S H σ ρ → Xn K ct U H cls da x → Kk.ex ρ x S → W cls da σ H
def TS_ (K : PySem.W.Frag) (ct : CT) (fresh : Bool) (W : WX) (U0 : Um) (H0 : Hp) (r : Env → Store → Ko → Prop) : TS := fun D σ H => ∃ U S ρ Kk, Bd K ct U0 H0 U S H σ ρ ∧ r ρ S Kk ∧ KoOk K ct fresh W U0 H0 U H D Kk
theorem PS.imp {X : Cx} {st : Stmt} {t t' : TS} (h : PS X st t) (i : ∀ D σ H, t' D σ H → t D σ H) : PS X st t' := ⟨fun pins s σ H D I q => h.run pins s σ H D I (i D σ H q)⟩
theorem PSs.imp {X : Cx} {st : List Stmt} {t t' : TS} (h : PSs X st t) (i : ∀ D σ H, t' D σ H → t D σ H) : PSs X st t' := ⟨fun pins s σ H D I q => h.run pins s σ H D I (i D σ H q)⟩
section
variable {X : Cx} {ct : CT} {W : WX} {m : Mo} {P : Prog} {F : Fsem} {Γ : List Clo} {fresh : Bool} {U0 : Um} {H0 : Hp}
variable {a e : Expr} {es : List Expr} {xa xb xt : Ex} {pos p : Pos} {st : Stmt} {rest body orelse : List Stmt} {sa sb : Sx}
theorem Bd.stp {U U' : Um} {S S' : Store} {H H' : Hp} {σ : L2.St} {ρ : Env} (b : Bd X.K ct U0 H0 U S H σ ρ) (s : Stp U H U' H') (o : Ok X.K ct U' S' H') : Bd X.K ct U0 H0 U' S' H' σ ρ := ⟨o, b.sl.stp b.ok s, b.so, b.st.trans b.ok s⟩
theorem KoOk.from {D : Ends} {Kk : Ko} {Us U1 : Um} {Hs H1 : Hp} (k : KoOk X.K ct fresh W U0 H0 Us Hs D Kk) (s : Sh Us Hs U1 H1) : KoOk X.K ct fresh W U0 H0 U1 H1 D Kk :=
  ⟨fun U S H σ ρ b s' q => k.nx U S H σ ρ b (s.trans s') q, k.rt, fun U S H σ ρ b s' q => k.bk U S H σ ρ b (s.trans s') q, fun U S H σ ρ b s' q => k.ct_ U S H σ ρ b (s.trans s') q, k.ex⟩
theorem KoOk.px {Us : Um} {Hs : Hp} {D : Ends} {Kk : Ko} {U : Um} {S : Store} {H : Hp} {σ : L2.St} {ρ : Env} (k : KoOk X.K ct fresh W U0 H0 Us Hs D Kk) (b : Bd X.K ct U0 H0 U S H σ ρ) : Px X.K ct W U H (Kk.ex ρ) σ :=
  fun cls da x U' S' H' s o xn q => k.ex cls da x U' S' H' σ ρ (b.stp s o) xn q
theorem KoOk.withNx {Us : Um} {Hs : Hp} {D : Ends} {Kk : Ko} (k : KoOk X.K ct fresh W U0 H0 Us Hs D Kk) {nx : Env → Store → Prop} {dn : L2.St → Hp → Prop} (h : ∀ U S H σ ρ, Bd X.K ct U0 H0 U S H σ ρ → Sh Us Hs U H → nx ρ S → dn σ H) : KoOk X.K ct fresh W U0 H0 Us Hs { D with nx := dn } { Kk with nx := nx } := ⟨h, k.rt, k.bk, k.ct_, k.ex⟩
theorem s_nil : PSs X [] (TS_ X.K ct fresh W U0 H0 (evS P F Γ .nil)) := PSs.imp pss_nil fun D σ H ⟨U, S, ρ, Kk, b, r, k⟩ => k.nx U S H σ ρ b .refl r
theorem s_cons (h1 : PS X st (TS_ X.K ct fresh W U0 H0 (evS P F Γ sa))) (h2 : PSs X rest (TS_ X.K ct fresh W U0 H0 (evS P F Γ sb))) : PSs X (st :: rest) (TS_ X.K ct fresh W U0 H0 (evS P F Γ (.seq sa sb))) :=
  PSs.imp (pss_cons h1 h2) fun D σ H ⟨U, S, ρ, Kk, b, r, k⟩ => ⟨U, S, ρ, _, b, r, k.withNx fun U S H σ ρ b s q => ⟨U, S, ρ, Kk, b, q, k.from s⟩⟩
theorem s_pass : PS X (.Pass pos) (TS_ X.K ct fresh W U0 H0 (evS P F Γ .pass)) := PS.imp ps_pass fun D σ H ⟨U, S, ρ, Kk, b, r, k⟩ => k.nx U S H σ ρ b .refl r
theorem s_brk : PS X (.Break pos) (TS_ X.K ct fresh W U0 H0 (evS P F Γ .brk)) := PS.imp ps_break fun D σ H ⟨U, S, ρ, Kk, b, r, k⟩ => k.bk U S H σ ρ b .refl r
theorem s_cont : PS X (.Continue pos) (TS_ X.K ct fresh W U0 H0 (evS P F Γ .cont)) := PS.imp ps_continue fun D σ H ⟨U, S, ρ, Kk, b, r, k⟩ => k.ct_ U S H σ ρ b .refl r
/-- a value in a slot -/
theorem Bd.put {U : Um} {S : Store} {H : Hp} {σ : L2.St} {ρ : Env} {i : Nat} {v : V} {d : D} (b : Bd X.K ct U0 H0 U S H σ ρ) (r : Dn X.K ct U H v d) : Bd X.K ct U0 H0 U S H (σ.set i (some v)) (ρ.set i (some d)) := by
  have nd : ∀ xs, d ≠ .own xs := fun xs e => by subst e; nomatch r
  have back : ∀ (j : Nat) (xs : List D), (ρ.set i (some d))[j]? = some (some (.own xs)) → j ≠ i ∧ ρ[j]? = some (some (.own xs)) := fun j xs h => by
    by_cases z : i = j
    · subst z
      by_cases hl : i < ρ.length
      · rw [List.getElem?_set_self hl] at h; cases h; exact absurd rfl (nd _)
      · rw [List.getElem?_eq_none (by rw [List.length_set]; omega)] at h; cases h
    · rw [List.getElem?_set_ne z] at h; exact ⟨fun q => z q.symm, h⟩
  have nb : ∀ xs, d ≠ .bor xs := fun xs e => by subst e; nomatch r
  refine ⟨b.ok, b.sl.put (.of r), ⟨fun j k p xs ys h1 h2 h3 h4 => ?_, fun j p xs h1 h3 => ?_, fun j p xs h1 h3 => ?_⟩, b.st⟩
  rotate_left 2
  · by_cases z : i = j
    · subst z
      by_cases hl : i < ρ.length
      · rw [List.getElem?_set_self hl] at h1; cases h1; exact absurd rfl (nb _)
      · rw [List.getElem?_eq_none (by rw [List.length_set]; omega)] at h1; cases h1
    · rw [List.getElem?_set_ne z] at h1 h3
      exact b.so.bo j p xs h1 h3
  · obtain ⟨n1, h1⟩ := back j xs h1
    obtain ⟨n2, h2⟩ := back k ys h2
    rw [List.getElem?_set_ne (Ne.symm n1)] at h3
    rw [List.getElem?_set_ne (Ne.symm n2)] at h4
    exact b.so.one j k p xs ys h1 h2 h3 h4
  · obtain ⟨n1, h1⟩ := back j xs h1
    rw [List.getElem?_set_ne (Ne.symm n1)] at h3
    exact b.so.new j p xs h1 h3
/-- an own list in a slot, that stands in no other -/
theorem Bd.putOwn {U : Um} {S : Store} {H : Hp} {σ : L2.St} {ρ : Env} {i : Nat} {p : Addr} {xs : List V} {ds : List D} (b : Bd X.K ct U0 H0 U S H σ ρ) (k : U p = .ow) (h : H p = some (.lst xs)) (l : DnL X.K ct U H xs ds) (h0 : H0 p = none) (no : ∀ (j : Nat) (ys : List D), j ≠ i → ρ[j]? = some (some (.own ys)) → σ[j]? ≠ some (some (.ref p))) :
    Bd X.K ct U0 H0 U S H (σ.set i (some (.ref p))) (ρ.set i (some (.own ds))) := by
  have back : ∀ (j : Nat) (zs : List D), j ≠ i → (ρ.set i (some (.own ds)))[j]? = some (some (.own zs)) → ρ[j]? = some (some (.own zs)) := fun j zs z h => by
    rw [List.getElem?_set_ne (Ne.symm z)] at h; exact h
  have sback : ∀ (j : Nat) (q : Addr), j ≠ i → (σ.set i (some (.ref p)))[j]? = some (some (.ref q)) → σ[j]? = some (some (.ref q)) := fun j q z h => by
    rw [List.getElem?_set_ne (Ne.symm z)] at h; exact h
  have at_ : ∀ (q : Addr), (σ.set i (some (.ref p)))[i]? = some (some (.ref q)) → q = p := fun q h => by
    by_cases hl : i < σ.length
    · rw [List.getElem?_set_self hl] at h; cases h; rfl
    · rw [List.getElem?_eq_none (by rw [List.length_set]; omega)] at h; cases h
  refine ⟨b.ok, b.sl.put (.own k h l), ⟨fun j n q xs' ys h1 h2 h3 h4 => ?_, fun j q xs' h1 h3 => ?_, fun j q xs' h1 h3 => ?_⟩, b.st⟩
  rotate_left 2
  · by_cases z : i = j
    · subst z
      by_cases hl : i < ρ.length
      · rw [List.getElem?_set_self hl] at h1; cases h1
      · rw [List.getElem?_eq_none (by rw [List.length_set]; omega)] at h1; cases h1
    · rw [List.getElem?_set_ne z] at h1 h3
      exact b.so.bo j q xs' h1 h3
  · by_cases z1 : j = i
    · by_cases z2 : n = i
      · rw [z1, z2]
      · rw [z1] at h3
        have e := at_ q h3
        subst e
        exact absurd (sback n q z2 h4) (no n ys z2 (back n ys z2 h2))
    · by_cases z2 : n = i
      · rw [z2] at h4
        have e := at_ q h4
        subst e
        exact absurd (sback j q z1 h3) (no j xs' z1 (back j xs' z1 h1))
      · exact b.so.one j n q xs' ys (back j xs' z1 h1) (back n ys z2 h2) (sback j q z1 h3) (sback n q z2 h4)
  · by_cases z1 : j = i
    · rw [z1] at h3
      rw [at_ q h3]; exact h0
    · exact b.so.new j q xs' (back j xs' z1 h1) (sback j q z1 h3)
/-- name = value -/
theorem Bd.putOw {U U' : Um} {S S' : Store} {H H' : Hp} {σ : L2.St} {ρ : Env} {i : Nat} {v : V} {d : D} (b : Bd X.K ct U0 H0 U S H σ ρ) (s : Stp U H U' H') (o : Ok X.K ct U' S' H') (md : OwV X.K ct H U' H' v d) : Bd X.K ct U0 H0 U' S' H' (σ.set i (some v)) (ρ.set i (some d)) := by
  have b' := b.stp s o
  cases md with
  | of h => exact b'.put h
  | own h1 h2 h3 h4 =>
    refine b'.putOwn h2 h3 h4 (none_back b.st b.ok h1) fun j ys hj hr hs => ?_
    obtain ⟨v, g1, g2⟩ := b.sl.get j _ hr
    rw [hs] at g1; cases g1
    cases g2 with
    | of h => nomatch h
    | own _ k _ => rw [h1] at k; cases k
theorem s_set {i : Nat} {te : TE} (hps : PS X st (tAsg te (gName i))) (imp : ∀ σ H Q, TE_ X.K ct W .ow (ev P F Γ xa).e σ H Q → te σ H Q) : PS X st (TS_ X.K ct fresh W U0 H0 (evS P F Γ (.asg (.var i) xa))) :=
  PS.imp hps fun D σ H ⟨U, S, ρ, Kk, b, r, k⟩ => imp σ H _ ⟨U, S, ρ, _, _, b.ok, b.sl, r, fun v d U1 S1 H1 s1 o1 m1 q1 => k.nx U1 S1 H1 _ _ (b.putOw s1 o1 m1) (s1.sh b.ok) q1, k.px b⟩
theorem s_expr (hs : swapsWith e none pos.line X.env = pure false) (he : PE X e (TE_ X.K ct W .bn (ev P F Γ xa).e)) : PS X (.Expr e pos) (TS_ X.K ct fresh W U0 H0 (evS P F Γ (.expr xa))) :=
  PS.imp (ps_expr he hs) fun D σ H ⟨U, S, ρ, Kk, b, r, k⟩ => ⟨U, S, ρ, _, _, b.ok, b.sl, r, fun v d U1 S1 H1 s1 o1 m1 q1 => k.nx U1 S1 H1 σ ρ (b.stp s1 o1) (s1.sh b.ok) q1, k.px b⟩
theorem s_ret (he : PE X e (TE_ X.K ct W (moR fresh) (ev P F Γ xa).e)) : PS X (.Return (some e) pos) (TS_ X.K ct fresh W U0 H0 (evS P F Γ (.ret xa))) :=
  PS.imp (ps_ret he) fun D σ H ⟨U, S, ρ, Kk, b, r, k⟩ => ⟨U, S, ρ, _, _, b.ok, b.sl, r, fun v d U1 S1 H1 s1 o1 m1 q1 => k.rt v d U1 S1 H1 (b.st.trans b.ok s1) o1 (m1.back b.st b.ok) q1, k.px b⟩
theorem s_retN : PS X (.Return none pos) (TS_ X.K ct fresh W U0 H0 (evS P F Γ (.ret (.cst .none)))) :=
  PS.imp ps_retN fun D σ H ⟨U, S, ρ, Kk, b, r, k⟩ => k.rt _ .none U S H b.st b.ok (.flat .non fun _ e => nomatch e) r
theorem s_retv {i : Nat} {n : Str} (hN : X.N[i]? = some n) (hv : Vis X.env.scope n) (hd : (n == ("__debug__" : Str)) = false) (hcd : (n == ("__classdict__" : Str)) = false) : PS X (.Return (some (.Name n p)) pos) (TS_ X.K ct fresh W U0 H0 (evS P F Γ (.retv i))) :=
  PS.imp (ps_ret (pe_var hN hv hd hcd)) fun D σ H ⟨U, S, ρ, Kk, b, r, k⟩ => by
    have r : (match ρ[i]? with | some (some (.own xs)) => Kk.rt (.lst xs) S | _ => False) := r
    split at r
    · rename_i xs e
      obtain ⟨v, h1, h2⟩ := b.sl.get i _ e
      refine ⟨v, h1, ?_⟩
      cases h2 with
      | of h => nomatch h
      | @own q vs ds k1 k2 k3 =>
        have h0 := b.so.new i q _ e h1
        exact k.rt _ _ (U.set q .sh) S H (b.st.setNew h0) (b.ok.rek (.inl k1) (by decide)) (.ofFr (.give b.ok (.inl k1) h0 k2 k3)) r
    · exact r.elim
theorem s_ite (hc : PT X a (TT_ X.K ct W (ev P F Γ xa).t)) (h1 : PSs X body (TS_ X.K ct fresh W U0 H0 (evS P F Γ sa))) (h2 : PSs X orelse (TS_ X.K ct fresh W U0 H0 (evS P F Γ sb))) : PS X (.If a body orelse pos) (TS_ X.K ct fresh W U0 H0 (evS P F Γ (.ite xa sa sb))) :=
  PS.imp (ps_if hc h1 h2) fun D σ H ⟨U, S, ρ, Kk, b, r, k⟩ => ⟨U, S, ρ, _, _, b.ok, b.sl, r, fun c U1 S1 H1 s1 o1 q1 => by
    cases c with
    | true => exact ⟨U1, S1, ρ, Kk, b.stp s1 o1, q1, k.from (s1.sh b.ok)⟩
    | false => exact ⟨U1, S1, ρ, Kk, b.stp s1 o1, q1, k.from (s1.sh b.ok)⟩, k.px b⟩
theorem s_while (hp : PassesOwn (model X.prog X.w) X.A X.env X.xe) (hc : PT X a (TT_ X.K ct W (ev P F Γ xa).t)) (h1 : PSs X body (TS_ X.K ct fresh W U0 H0 (evS P F Γ sa))) : PS X (.While a body [] pos) (TS_ X.K ct fresh W U0 H0 (evS P F Γ (.while_ xa sa))) :=
  PS.imp (ps_while hp hc h1) fun D σ H ⟨U, S, ρ, Kk, b, r, k⟩ => by
    obtain ⟨Wi, ⟨m0, w0⟩, turn⟩ := r
    refine ⟨fun n σ' H' => ∃ U' S' ρ', Bd X.K ct U0 H0 U' S' H' σ' ρ' ∧ Sh U H U' H' ∧ Wi n ρ' S', ⟨m0, U, S, ρ, b, .refl, w0⟩, fun n σ H ⟨U, S, ρ, b, sh, w⟩ => ?_⟩
    refine ⟨U, S, ρ, _, _, b.ok, b.sl, turn n ρ S w, fun c U1 S1 H1 s1 o1 q1 => ?_, k.px b⟩
    have sh1 := sh.trans (s1.sh b.ok)
    cases c with
    | false => exact k.nx U1 S1 H1 σ ρ (b.stp s1 o1) sh1 q1
    | true =>
      obtain ⟨N, hN, q1⟩ := q1
      refine ⟨fun σ' H' => ∃ U' S' ρ', Bd X.K ct U0 H0 U' S' H' σ' ρ' ∧ Sh U1 H1 U' H' ∧ N ρ' S', fun σ' H' ⟨U', S', ρ', b', sh', n'⟩ => ?_, U1, S1, ρ, _, b.stp s1 o1, q1, ?_⟩
      · obtain ⟨m', h1, h2⟩ := hN ρ' S' n'
        exact ⟨m', h1, U', S', ρ', b', sh1.trans sh', h2⟩
      · exact ⟨fun U S H σ ρ b s q => ⟨U, S, ρ, b, s, q⟩, k.rt, fun U S H σ ρ b s q => k.nx U S H σ ρ b (sh1.trans s) q, fun U S H σ ρ b s q => ⟨U, S, ρ, b, s, q⟩, k.ex⟩
end
end Sb
set_option linter.all false
set_option maxRecDepth 20000
set_option maxHeartbeats 1000000
set_option autoImplicit false
/-! A18: targets of statements, loops, lists and instances that change. -/
namespace Sb
open PySem PySem.Spec PyProof.Rows L2
section
variable {X : Cx} {ct : CT} {W : WX} {m : Mo} {P : Prog} {F : Fsem} {Γ : List Clo} {fresh : Bool} {U0 : Um} {H0 : Hp}
variable {a e iter tg : Expr} {es : List Expr} {xa xb xi xt : Ex} {pos p : Pos} {st : Stmt} {rest body orelse : List Stmt} {sa sb : Sx}
/-- the frame where another list than a slot's own, or a store's, stands -/
theorem Bd.mut {U : Um} {S : Store} {H : Hp} {σ : L2.St} {ρ : Env} {p : Addr} {o : HO} (b : Bd X.K ct U0 H0 U S H σ ρ) (k : U p ≠ .sh) (no : ∀ (j : Nat) (xs : List D), ρ[j]? = some (some (.own xs)) → σ[j]? ≠ some (some (.ref p))) (nb : ∀ (j : Nat) (xs : List D), ρ[j]? = some (some (.bor xs)) → σ[j]? ≠ some (some (.ref p))) :
    Sl X.K ct U (upd H p o) σ ρ :=
  ⟨b.sl.len, fun i d hi => by
    obtain ⟨v, h1, h2⟩ := b.sl.get i d hi
    refine ⟨v, h1, ?_⟩
    cases h2 with
    | of h => exact .of (h.mut k)
    | @own q xs ds k1 k2 k3 =>
      have hq : q ≠ p := fun z => no i _ hi (by rw [h1, z])
      exact .own k1 (by rw [upd_ne hq]; exact k2) (k3.mut k)
    | @bor q xs ds k1 k2 k3 =>
      have hq : q ≠ p := fun z => nb i _ hi (by rw [h1, z])
      exact .bor k1 (by rw [upd_ne hq]; exact k2) (k3.mut k)
    | @clo q c' z e k1 k2 =>
      have hq : c' ≠ p := fun z => k (by rw [← z]; exact k1)
      exact .clo e k1 (by rw [upd_ne hq]; exact k2)⟩
/-- an own list is changed -/
theorem Bd.mutOwn {U : Um} {S : Store} {H : Hp} {σ : L2.St} {ρ : Env} {i : Nat} {q : Addr} {xs vs : List V} {ds es : List D} (b : Bd X.K ct U0 H0 U S H σ ρ) (hr : ρ[i]? = some (some (.own ds))) (hs : σ[i]? = some (some (.ref q))) (l : DnL X.K ct U H vs es) :
    Bd X.K ct U0 H0 U S (upd H q (.lst vs)) σ (ρ.set i (some (.own es))) := by
  obtain ⟨v, h1, h2⟩ := b.sl.get i _ hr
  rw [hs] at h1; cases h1
  cases h2 with
  | of h => nomatch h
  | own k1 k2 k3 =>
    have ksh : U q ≠ .sh := by rw [k1]; decide
    have h0 := b.so.new i q _ hr hs
    have hil : i < ρ.length := (List.getElem?_eq_some_iff.mp hr).1
    -- the other slots
    have key : ∀ (j : Nat) (d : D), j ≠ i → ρ[j]? = some (some d) → ∃ v, σ[j]? = some (some v) ∧ Vn X.K ct U (upd H q (.lst vs)) v d := fun j d hj hd => by
      obtain ⟨v, g1, g2⟩ := b.sl.get j d hd
      refine ⟨v, g1, ?_⟩
      cases g2 with
      | of h => exact .of (h.mut ksh)
      | @own r xs' ds' c1 c2 c3 =>
        have hq : r ≠ q := fun z => hj (b.so.one j i q _ _ hd hr (by rw [g1, z]) hs)
        exact .own c1 (by rw [upd_ne hq]; exact c2) (c3.mut ksh)
      | @bor r xs' ds' c1 c2 c3 =>
        have hq : r ≠ q := fun z => b.so.bo j r _ hd g1 (by rw [z]; exact h0)
        exact .bor c1 (by rw [upd_ne hq]; exact c2) (c3.mut ksh)
      | @clo r c' z e k1 k2 =>
        have hq : c' ≠ q := fun z => ksh (by rw [← z]; exact k1)
        exact .clo e k1 (by rw [upd_ne hq]; exact k2)
    have back : ∀ (j : Nat) (zs : List D), (ρ.set i (some (.own es)))[j]? = some (some (.own zs)) → ∃ zs', ρ[j]? = some (some (.own zs')) := fun j zs h => by
      by_cases z : i = j
      · subst z; exact ⟨ds, hr⟩
      · rw [List.getElem?_set_ne z] at h; exact ⟨zs, h⟩
    refine ⟨b.ok.mut (.inl k1), ⟨by rw [List.length_set]; exact b.sl.len, fun j d hd => ?_⟩, ⟨fun j n r x1 x2 e1 e2 e3 e4 => ?_, fun j r x1 e1 e3 => ?_, fun j r x1 e1 e3 => ?_⟩, b.st.updNew h0⟩
    · by_cases z : i = j
      · subst z
        rw [List.getElem?_set_self hil] at hd; cases hd
        exact ⟨.ref q, hs, .own k1 upd_same (l.mut ksh)⟩
      · rw [List.getElem?_set_ne z] at hd
        exact key j d (Ne.symm z) hd
    · obtain ⟨y1, e1⟩ := back j x1 e1
      obtain ⟨y2, e2⟩ := back n x2 e2
      exact b.so.one j n r y1 y2 e1 e2 e3 e4
    · obtain ⟨y1, e1⟩ := back j x1 e1
      exact b.so.new j r y1 e1 e3
    · by_cases z : i = j
      · subst z
        rw [List.getElem?_set_self hil] at e1; cases e1
      · rw [List.getElem?_set_ne z] at e1
        exact b.so.bo j r x1 e1 e3
/-- what stands in the store is changed -/
theorem Bd.mutCe {U : Um} {S : Store} {H : Hp} {σ : L2.St} {ρ : Env} {q : Addr} {c : Cell} {o : HO} (b : Bd X.K ct U0 H0 U S H σ ρ) (k : U q = .ce) (ht : ¬ ct.tab q) (hc : CellOk X.K ct U (upd H q o) q c) : Bd X.K ct U0 H0 U (S.put q c) (upd H q o) σ ρ := by
  have ksh : U q ≠ .sh := by rw [k]; decide
  have nn : H q ≠ none := b.ok.there q ksh
  refine ⟨⟨fun a => ?_, fun a cc e => ?_, fun a ha => ?_, fun p hp => (b.ok.tab p hp).st (fun u hu => by rw [upd_ne (CT.ntab ht hp)]; exact hu) (StW.mut ksh)⟩, b.mut ksh (fun j xs hj hs => ?_) (fun j xs hj hs => ?_), b.so, ⟨fun a u e ha => ?_, b.st.un⟩⟩
  · by_cases z : a = q
    · rw [z, k]; simp [Store.put]
    · simpa [Store.put, z] using b.ok.ce a
  · by_cases z : a = q
    · subst z
      simp [Store.put] at e
      subst e
      exact hc
    · simp [Store.put, z] at e
      exact (b.ok.cell a cc e).st (fun u hu => by rw [upd_ne z]; exact hu) (StW.mut ksh) fun _ z => z
  · by_cases z : a = q
    · rw [z, upd_same]; simp
    · rw [upd_ne z]; exact b.ok.there a ha
  · obtain ⟨v, h1, h2⟩ := b.sl.get j _ hj
    rw [hs] at h1; cases h1
    cases h2 with
    | of h => nomatch h
    | own k1 _ _ => rw [k] at k1; cases k1
  · obtain ⟨v, h1, h2⟩ := b.sl.get j _ hj
    rw [hs] at h1; cases h1
    cases h2 with
    | of h => nomatch h
    | bor k1 _ _ => rw [k] at k1; cases k1
  · by_cases z : a = q
    · subst z
      have := b.st.un a (by rw [e]; simp)
      rw [k] at this
      exact absurd this.symm ha
    · rw [upd_ne z]; exact b.st.st a u e ha
/-! ### targets -/
def TG0 (K : PySem.W.Frag) (ct : CT) (U0 : Um) (H0 : Hp) (raw : Bool) (g : D → Env → Store → (Env → Store → Prop) → QD → Prop) : TG := fun v σ H Qs => ∃ U S ρ d k, Bd K ct U0 H0 U S H σ ρ ∧ ItemV K ct raw U H v d ∧ g d ρ S k (fun _ _ => False) ∧
  ∀ σ' ρ' U' S' H', Bd K ct U0 H0 U' S' H' σ' ρ' → Sh U H U' H' → k ρ' S' → Qs σ' H'
def TG0s (K : PySem.W.Frag) (ct : CT) (U0 : Um) (H0 : Hp) (g : List D → Env → Store → (Env → Store → Prop) → QD → Prop) : TGs := fun vs σ H Qs => ∃ U S ρ ds k, Bd K ct U0 H0 U S H σ ρ ∧ DnL K ct U H vs ds ∧ g ds ρ S k (fun _ _ => False) ∧
  ∀ σ' ρ' U' S' H', Bd K ct U0 H0 U' S' H' σ' ρ' → Sh U H U' H' → k ρ' S' → Qs σ' H'
theorem g0_var {i : Nat} {n : Str} (nd : X.N.Nodup) (hi : X.N[i]? = some n) (hx : Loc X.env.scope n) (hf : X.fn n = true ∨ X.env.scope.names.lookup n = some .local) : PG X (.Name n pos) (TG0 X.K ct U0 H0 false (ev P F Γ (.var i)).g) :=
  PG.imp (pg_name nd hi hx hf) fun v σ H Qs ⟨U, S, ρ, d, k, b, iv, q, po⟩ => by
    rcases iv with dv | ⟨z, _⟩
    · exact po _ _ U S H (b.put dv) .refl q
    · cases z
theorem gs0_nil : PGs X [] (TG0s X.K ct U0 H0 (ev P F Γ .nil).gs) :=
  PGs.imp pgs_nil fun vs σ H Qs ⟨U, S, ρ, ds, k, b, iv, q, po⟩ => by
    have q' : ds = [] ∧ k ρ S := q
    obtain ⟨e, q1⟩ := q'
    subst e
    cases iv
    exact ⟨rfl, po _ _ U S H b .refl q1⟩
theorem gs0_cons (hs : (assignEach (a :: es) X.env).map (·.2) = assign a X.env :: (assignEach es X.env).map (·.2)) (h1 : PG X a (TG0 X.K ct U0 H0 false (ev P F Γ xa).g)) (h2 : PGs X es (TG0s X.K ct U0 H0 (ev P F Γ xb).gs)) :
    PGs X (a :: es) (TG0s X.K ct U0 H0 (ev P F Γ (.cons xa xb)).gs) :=
  PGs.imp (pgs_cons h1 h2 hs) fun vs σ H Qs ⟨U, S, ρ, ds, k, b, iv, q, po⟩ => by
    cases iv with
    | nil => exact q.elim
    | @cons v vs d ds hv ht =>
      have q : (ev P F Γ xa).g d ρ S (fun ρ S => (ev P F Γ xb).gs ds ρ S k fun _ _ => False) fun _ _ => False := q
      exact ⟨v, vs, rfl, U, S, ρ, d, _, b, .inl hv, q, fun σ1 ρ1 U1 S1 H1 b1 s1 q1 => ⟨U1, S1, ρ1, ds, k, b1, ht.st s1.1 s1.2, q1, fun σ2 ρ2 U2 S2 H2 b2 s2 q2 => po σ2 ρ2 U2 S2 H2 b2 (s1.trans s2) q2⟩⟩
theorem g0_tup {raw : Bool} {kk n : Nat} (hc : X.calm = true) (hn : (assignEach es X.env).length = n) (hst : (assignEach es X.env).findIdx? (·.1) = none) (hl : exLen xa = n) (h : PGs X es (TG0s X.K ct U0 H0 (ev P F Γ xa).gs)) :
    PG X (.Tuple es kk pos) (TG0 X.K ct U0 H0 raw (ev P F Γ (.tup xa)).g) :=
  PG.imp (pg_seq hc h hn hst) fun v σ H Qs ⟨U, S, ρ, d, k, b, iv, q, po⟩ => by
    cases d with
    | lst ds =>
      have q0 : ds.length = exLen xa ∧ (ev P F Γ xa).gs ds ρ S k fun _ _ => False := q
      obtain ⟨ql, q⟩ := q0
      rcases iv with dv | ⟨_, p, vs, ds', rfl, e, hp, l⟩
      · obtain ⟨p, xs, rfl, hp, l⟩ := Bn.seqL (.of dv)
        exact ⟨p, xs, rfl, .inr hp, by rw [l.length, ql]; exact hl, U, S, ρ, ds, k, b, l, q, po⟩
      · cases e
    | tup ds =>
      have q0 : ds.length = exLen xa ∧ (ev P F Γ xa).gs ds ρ S k fun _ _ => False := q
      obtain ⟨ql, q⟩ := q0
      rcases iv with dv | ⟨_, p, vs, ds', rfl, e, hp, l⟩
      · obtain ⟨p, o, xs, rfl, _, hp, _, l⟩ := Bn.seqT (.of dv)
        exact ⟨p, xs, rfl, .inl (.inl (.inr ⟨_, hp⟩)), by rw [l.length, ql]; exact hl, U, S, ρ, ds, k, b, l, q, po⟩
      · cases e
        exact ⟨p, vs, rfl, .inl (.inl (.inl hp)), by rw [l.length, ql]; exact hl, U, S, ρ, ds, k, b, l, q, po⟩
    | _ => exact q.elim
theorem setL_ok {xs : List D} {i v : D} {Q : List D → Prop} (h : setL xs i v Q) : ∃ k j, i = .int k ∧ ixN xs.length k = some j ∧ Q (xs.set j v) := by
  cases i with
  | int k =>
    change (match ixN xs.length k with | some j => Q (xs.set j v) | none => False) at h
    cases e : ixN xs.length k with
    | none => rw [e] at h; exact h.elim
    | some j => rw [e] at h; exact ⟨k, j, rfl, e, h⟩
  | _ => exact h.elim
/-- x[i] = v at a slot's list -/
theorem set_ix {U : Um} {S : Store} {H : Hp} {σ : L2.St} {ρ : Env} {i : Nat} {iv : D} {v x : V} {d : D} {k : Env → Store → Prop} {Qs : L2.St → Hp → Prop} {vi : V} (b : Bd X.K ct U0 H0 U S H σ ρ) (dv : Dn X.K ct U H v d) (di : Dn X.K ct U H vi iv) (hx : σ[i]? = some (some x)) (q : setIxD ρ i iv d S k)
    (po : ∀ σ' ρ' U' S' H', Bd X.K ct U0 H0 U' S' H' σ' ρ' → Sh U H U' H' → k ρ' S' → Qs σ' H') : rSetL x vi v H fun H3 => Qs σ H3 := by
  unfold setIxD at q
  split at q
  · rename_i xs e
    obtain ⟨kk, j, rfl, hj, q⟩ := setL_ok q
    cases di
    obtain ⟨x', h1, h2⟩ := b.sl.get i _ e
    rw [hx] at h1; cases h1
    cases h2 with
    | of h => nomatch h
    | @own p vs ds k1 k2 k3 => exact ⟨p, vs, kk, j, rfl, rfl, k2, by rw [k3.length]; exact hj, po _ _ _ _ _ (b.mutOwn (xs := vs) e hx (k3.set dv j)) ⟨StW.mut (by rw [k1]; decide), fun _ h => h⟩ q⟩
  · rename_i p e
    cases ec : S p with
    | none => simp only [ec] at q
    | some cell =>
      cases cell with
      | lst xs =>
        simp only [ec] at q
        obtain ⟨kk, j, rfl, hj, q⟩ := setL_ok q
        cases di
        obtain ⟨x', h1, h2⟩ := b.sl.get i _ e
        rw [hx] at h1; cases h1
        cases h2 with
        | of h =>
          cases h with
          | ptr k1 =>
            obtain ⟨vs, g1, g2⟩ := b.ok.cell p _ ec
            have ksh : U p ≠ .sh := by rw [k1]; decide
            exact ⟨p, vs, kk, j, rfl, rfl, g1, by rw [g2.length]; exact hj, po _ _ _ _ _ (b.mutCe (c := .lst (xs.set j d)) k1 (b.ok.cellT ec) ⟨_, upd_same, (g2.set dv j).mut ksh⟩) ⟨StW.mut ksh, fun _ h => h⟩ q⟩
      | _ => simp only [ec] at q
  · exact q.elim
theorem g0_ix {i : Nat} {n : Str} {ei : Expr} {raw : Bool} {p1 : Pos} (hN : X.N[i]? = some n) (hv : Vis X.env.scope n) (hd : (n == ("__debug__" : Str)) = false) (hcd : (n == ("__classdict__" : Str)) = false)
    (ha : ∀ v, assign (.Subscript (.Name n p1) ei pos) X.env v = (do
      let ov ← holding [v] (eval (.Name n p1) X.env)
      let iv ← holding [v, ov] (eval ei X.env)
      standAt pos
      holding [v, ov, iv] (setItem ov iv v)
      release [v, ov, iv] [])) (hi : PE X ei (TE_ X.K ct WF .dn (ev P F Γ xa).e)) :
    PG X (.Subscript (.Name n p1) ei pos) (TG0 X.K ct U0 H0 false (ev P F Γ (.ix (.var i) xa)).g) :=
  PG.imp (pg_sub (pe_var hN hv hd hcd) hi set_list ha) fun v σ H Qs ⟨U, S, ρ, d, k, b, iv, q, po⟩ => by
    have q : slotOf (.var i) ρ = true ∧ (ev P F Γ xa).e ρ S (fun iv S => setIxD ρ i iv d S k) (fun _ _ => False) := q
    obtain ⟨q0, q⟩ := q
    rcases iv with dv | ⟨z, _⟩
    · -- the slot's value is there
      have hx : ∃ x, σ[i]? = some (some x) := by
        have q0 : (match ρ[i]? with | some (some _) => true | _ => false) = true := q0
        split at q0
        · rename_i d' e
          obtain ⟨x, h1, _⟩ := b.sl.get i _ e
          exact ⟨x, h1⟩
        · cases q0
      obtain ⟨x, hx⟩ := hx
      refine ⟨x, hx, U, S, ρ, _, _, b.ok, b.sl, q, fun vi di U1 S1 H1 s1 o1 m1 q1 => ?_, Px.none⟩
      exact set_ix (b.stp s1 o1) (dv.stp b.ok s1) m1 hx q1 fun σ' ρ' U' S' H' b' s' qk => po σ' ρ' U' S' H' b' ((Stp.sh s1 b.ok).trans s') qk
    · cases z
/-! ### statements -/
theorem s_asgT {raw : Bool} {tgt : Expr} (hr : raw = false) (hs : swapsWithSole [tgt] e pos.line X.env = pure false) (hw : swappedStores [tgt] e X.env = pure none) (h1 : (assignEach [tgt] X.env).map (·.2) = [assign tgt X.env])
    (he : PE X e (TE_ X.K ct W .dn (ev P F Γ xa).e)) (hg : PG X tgt (TG0 X.K ct U0 H0 raw (ev P F Γ xt).g)) : PS X (.Assign [tgt] e pos) (TS_ X.K ct fresh W U0 H0 (evS P F Γ (.asg xt xa))) :=
  PS.imp (ps_asg he hg hs hw h1) fun D σ H ⟨U, S, ρ, Kk, b, r, k⟩ => ⟨U, S, ρ, _, _, b.ok, b.sl, r, fun v d U1 S1 H1 s1 o1 m1 q1 =>
    ⟨U1, S1, ρ, d, _, b.stp s1 o1, .inl m1, q1, fun σ' ρ' U' S' H' b' sh qk => k.nx U' S' H' σ' ρ' b' ((s1.sh b.ok).trans sh) qk⟩, k.px b⟩
theorem s_for {raw : Bool} (hp : PassesOwn (model X.prog X.w) X.A X.env X.xe) (hc : X.calm = true) (hs : ∀ x, foldedSetIterable iter X.env x = pure x) (hi : PI X tg iter (TI_ X.K ct W true raw (ev P F Γ xi).i)) (hg : PG X tg (TG0 X.K ct U0 H0 raw (ev P F Γ xt).g)) (hb : PSs X body (TS_ X.K ct fresh W U0 H0 (evS P F Γ sa))) :
    PS X (.For tg iter body [] pos) (TS_ X.K ct fresh W U0 H0 (evS P F Γ (.for_ xt xi sa))) :=
  PS.imp (ps_for hp hc hi hg hb hs) fun De σ H ⟨U, S, ρ, Kk, b, r, k⟩ => ⟨U, S, ρ, _, _, b.ok, b.sl, r, fun J xs U1 S1 H1 s1 o1 wk q1 => by
    have b0 := b
    have b1 := b.stp s1 o1
    let loop : List D → Env → Store → Prop := loopS (fun x ρ S k => (ev P F Γ xt).g x ρ S (fun ρ S => evS P F Γ sa ρ S { Kk with nx := k, ct := k, bk := Kk.nx }) fun _ _ => False) Kk.nx
    have q1 : loop xs ρ S1 := q1
    refine for_it wk (fun i σ H => ∃ U S ρ, Bd X.K ct U0 H0 U S H σ ρ ∧ Sh U1 H1 U H ∧ loop (xs.drop i) ρ S) ⟨U1, S1, ρ, b1, .refl, q1⟩ (fun i σ H _ ⟨U, S, ρ, _, s, _⟩ => ⟨U, s⟩) (fun i x σ2 H2 H3 hi2 ⟨U2, S2, ρ2, b2, sh2, lp⟩ ⟨d, hd, hy⟩ => ?_) (fun σ2 H2 ⟨U2, S2, ρ2, b2, sh2, lp⟩ => ?_)
    · obtain ⟨kp, o3, iv⟩ := (hy U2 S2 sh2 b2.ok).use b2.ok
      have b3 := b2.stp kp.stp o3
      have e : xs.drop i = d :: xs.drop (i + 1) := by
        rw [List.drop_eq_getElem_cons hi2]
        rw [List.getElem?_eq_getElem hi2] at hd
        cases hd; rfl
      rw [e] at lp
      refine ⟨U2, S2, ρ2, d, fun ρ S => evS P F Γ sa ρ S { Kk with nx := fun ρ S => loop (xs.drop (i + 1)) ρ S, ct := fun ρ S => loop (xs.drop (i + 1)) ρ S, bk := Kk.nx }, b3, iv, lp, fun σ4 ρ4 U4 S4 H4 b4 sh4 q4 => ⟨U4, S4, ρ4, _, b4, q4, ?_⟩⟩
      have sh3 : Sh U1 H1 U4 H4 := (sh2.trans (Stp.sh kp.stp b2.ok)).trans sh4
      exact ⟨fun U S H σ ρ b s q => ⟨U, S, ρ, b, sh3.trans s, q⟩, k.rt, fun U S H σ ρ b s q => k.nx U S H σ ρ b (((s1.sh b0.ok).trans sh3).trans s) q, fun U S H σ ρ b s q => ⟨U, S, ρ, b, sh3.trans s, q⟩, k.ex⟩
    · rw [List.drop_length] at lp
      exact k.nx U2 _ H2 σ2 ρ2 b2 ((s1.sh b0.ok).trans sh2) lp, k.px b⟩
end
end Sb
set_option linter.all false
set_option maxRecDepth 20000
set_option maxHeartbeats 1000000
set_option autoImplicit false
/-! AF: an own list that is only read from now on. -/
namespace Sb
open PySem PySem.Spec PyProof.Rows L2
section
variable {X : Cx} {ct : CT} {W : WX} {m : Mo} {P : Prog} {F : Fsem} {Γ : List Clo} {fresh : Bool} {U0 : Um} {H0 : Hp}
theorem Bd.freeze {U : Um} {S : Store} {H : Hp} {σ : L2.St} {ρ : Env} {i : Nat} {ds : List D} (b : Bd X.K ct U0 H0 U S H σ ρ) (hr : ρ[i]? = some (some (.own ds))) :
    ∃ U1, Bd X.K ct U0 H0 U1 S H σ (ρ.set i (some (.lst ds))) ∧ Sh U H U1 H := by
  obtain ⟨v, h1, h2⟩ := b.sl.get i _ hr
  cases h2 with
  | of h => nomatch h
  | @own p xs _ k1 k2 k3 =>
    have h0 := b.so.new i p _ hr h1
    have n1 : U p ≠ .sh := by rw [k1]; decide
    have n2 : U p ≠ .ce := by rw [k1]; decide
    have st : StW U H (U.set p .sh) H := StW.rek (.inl n1)
    have kc : ∀ a, U a = .ce → U.set p .sh a = .ce := ce_rek n2
    have ne : ∀ j, ¬ i = j → (ρ.set i (some (.lst ds)))[j]? = ρ[j]? := fun j z => List.getElem?_set_ne z
    have at_ : ∀ d, (ρ.set i (some (.lst ds)))[i]? = some (some d) → d = .lst ds := fun d h => by
      have hl : i < ρ.length := by
        by_cases hl : i < ρ.length
        · exact hl
        · rw [List.getElem?_eq_none (by omega)] at hr; cases hr
      rw [List.getElem?_set_self hl] at h; cases h; rfl
    refine ⟨U.set p .sh, ⟨b.ok.rek (.inl k1) (by decide), ⟨by rw [List.length_set]; exact b.sl.len, fun j d h => ?_⟩, ⟨fun j k q ys zs g1 g2 g3 g4 => ?_, fun j q ys g1 g3 => ?_, fun j q ys g1 g3 => ?_⟩, b.st.setNew h0⟩, st, kc⟩
    · by_cases z : i = j
      · subst z
        rw [at_ d h]
        exact ⟨_, h1, .of (.lst Um.set_same k2 (k3.st st kc))⟩
      · rw [ne j z] at h
        obtain ⟨w, w1, w2⟩ := b.sl.get j _ h
        refine ⟨w, w1, ?_⟩
        cases w2 with
        | of h => exact .of (h.st st kc)
        | @bor q ys es g1 g2 g3 =>
          have hq : q ≠ p := fun e => b.so.bo j q _ h w1 (e ▸ h0)
          exact .bor (by rw [Um.set_ne hq]; exact g1) g2 (g3.st st kc)
        | @own q ys es g1 g2 g3 =>
          have hq : q ≠ p := fun e => z (b.so.one i j p _ _ hr h h1 (e ▸ w1))
          exact .own (by rw [Um.set_ne hq]; exact g1) g2 (g3.st st kc)
        | clo g1 g2 g3 => exact .clo g1 (st _ _ g3 g2).2 g3
    · have z1 : ¬ i = j := fun z => by subst z; exact nomatch at_ _ g1
      have z2 : ¬ i = k := fun z => by subst z; exact nomatch at_ _ g2
      rw [ne j z1] at g1; rw [ne k z2] at g2
      exact b.so.one j k q ys zs g1 g2 g3 g4
    · have z1 : ¬ i = j := fun z => by subst z; exact nomatch at_ _ g1
      rw [ne j z1] at g1
      exact b.so.new j q ys g1 g3
    · have z1 : ¬ i = j := fun z => by subst z; exact nomatch at_ _ g1
      rw [ne j z1] at g1
      exact b.so.bo j q ys g1 g3
/-- for .. in a list of the def's own -/
theorem s_forz {i : Nat} {xt : Ex} {sa : Sx} {st : Stmt} (h : PS X st (TS_ X.K ct fresh W U0 H0 (evS P F Γ (.for_ xt (.var i) sa)))) : PS X st (TS_ X.K ct fresh W U0 H0 (evS P F Γ (.forz xt i sa))) :=
  PS.imp h fun D σ H ⟨U, S, ρ, Kk, b, r, k⟩ => by
    have r : (match ρ[i]? with
      | some (some (.own xs)) => loopS (fun x ρ S k => (ev P F Γ xt).g x ρ S (fun ρ S => evS P F Γ sa ρ S { Kk with nx := k, ct := k, bk := Kk.nx }) fun _ _ => False) Kk.nx xs (ρ.set i (some (.lst xs))) S
      | _ => False) := r
    split at r
    · rename_i xs e
      obtain ⟨U1, b1, sh⟩ := b.freeze e
      refine ⟨U1, S, ρ.set i (some (.lst xs)), Kk, b1, ?_, k.from sh⟩
      show getV (ρ.set i (some (.lst xs))) i fun d => itemsD d fun xs => loopS (fun x ρ S k => (ev P F Γ xt).g x ρ S (fun ρ S => evS P F Γ sa ρ S { Kk with nx := k, ct := k, bk := Kk.nx }) fun _ _ => False) Kk.nx xs (ρ.set i _) S
      have hl : i < ρ.length := by
        by_cases hl : i < ρ.length
        · exact hl
        · rw [List.getElem?_eq_none (by omega)] at e; cases e
      unfold getV
      rw [List.getElem?_set_self hl]
      exact r
    · exact r.elim
end
end Sb
set_option linter.all false
set_option maxRecDepth 20000
set_option maxHeartbeats 1000000
set_option autoImplicit false
/-! A19: more statements. -/
namespace Sb
open PySem PySem.Spec PyProof.Rows L2
section
variable {X : Cx} {ct : CT} {W : WX} {m : Mo} {P : Prog} {F : Fsem} {Γ : List Clo} {fresh : Bool} {U0 : Um} {H0 : Hp}
variable {a e iter tg : Expr} {es : List Expr} {xa xb xi xt : Ex} {pos p : Pos} {st : Stmt} {rest body orelse : List Stmt} {sa sb : Sx}
/-- two names at once -/
theorem Bd.putOw2 {U U' : Um} {S S' : Store} {H H' : Hp} {σ : L2.St} {ρ : Env} {i : Nat} {v : V} {d : D} (b : Bd X.K ct U0 H0 U' S' H' σ ρ) (h0 : H0 = H0) (md : OwV X.K ct H U' H' v d) (hb : ∀ p, H p = none → H0 p = none) (no : ∀ (p : Addr) (zs : List D), v = .ref p → d = .own zs → ∀ (j : Nat) (ys : List D), j ≠ i → ρ[j]? = some (some (.own ys)) → σ[j]? ≠ some (some (.ref p))) :
    Bd X.K ct U0 H0 U' S' H' (σ.set i (some v)) (ρ.set i (some d)) := by
  cases md with
  | of h => exact b.put h
  | own h1 h2 h3 h4 => exact b.putOwn h2 h3 h4 (hb _ h1) (no _ _ rfl rfl)
theorem own_old {U : Um} {S : Store} {H : Hp} {σ : L2.St} {ρ : Env} {p : Addr} (b : Bd X.K ct U0 H0 U S H σ ρ) (h : H p = none) (j : Nat) (ys : List D) (hr : ρ[j]? = some (some (.own ys))) : σ[j]? ≠ some (some (.ref p)) := fun hs => by
  obtain ⟨v, g1, g2⟩ := b.sl.get j _ hr
  rw [hs] at g1; cases g1
  cases g2 with
  | of h => nomatch h
  | own _ k _ => rw [h] at k; cases k
theorem set_at {α : Type} {ρ : List (Option α)} {i j : Nat} {d : α} {x : α} (h : (ρ.set i (some d))[j]? = some (some x)) : (j = i ∧ x = d) ∨ (j ≠ i ∧ ρ[j]? = some (some x)) := by
  by_cases z : i = j
  · subst z
    by_cases hl : i < ρ.length
    · rw [List.getElem?_set_self hl] at h; cases h; exact .inl ⟨rfl, rfl⟩
    · rw [List.getElem?_eq_none (by rw [List.length_set]; omega)] at h; cases h
  · rw [List.getElem?_set_ne z] at h; exact .inr ⟨fun q => z q.symm, h⟩
def setAllV : List Nat → List V → L2.St → L2.St
  | i :: is, v :: vs, σ => setAllV is vs (σ.set i (some v))
  | _, _, σ => σ
/-- values into slots, one after another -/
theorem Bd.putAll {H : Hp} (hb : ∀ p, H p = none → H0 p = none) {U' : Um} {S' : Store} {H' : Hp} {vs : List V} {ds : List D} (md : MdL X.K ct .ow H U' S' H' vs ds) : ∀ {is : List Nat} {σ : L2.St} {ρ : Env}, is.length = ds.length → Bd X.K ct U0 H0 U' S' H' σ ρ →
    (∀ (p : Addr), H p = none → ∀ (j : Nat) (ys : List D), ρ[j]? = some (some (.own ys)) → σ[j]? = some (some (.ref p)) → ∀ (n : Nat) (e : List D), ds[n]? = some (.own e) → vs[n]? ≠ some (.ref p)) →
    Bd X.K ct U0 H0 U' S' H' (setAllV is vs σ) (setAll is ds ρ) := by
  induction md with
  | nil =>
    intro is σ ρ hl b _
    cases is with
    | nil => exact b
    | cons _ _ => cases hl
  | @cons v d vs ds h nn t ih =>
    intro is σ ρ hl b no
    cases is with
    | nil => cases hl
    | cons i is =>
      have b1 : Bd X.K ct U0 H0 U' S' H' (σ.set i (some v)) (ρ.set i (some d)) := b.putOw2 (U := U') (S := S') (H := H) rfl h hb fun p zs e1 e2 j ys _ hr hs => by
        subst e1; subst e2
        obtain ⟨q, xs, e3, h1, _⟩ := h.own
        cases e3
        exact no p h1 j ys hr hs 0 zs rfl rfl
      refine ih (by simpa using hl) b1 fun p hp j ys hr hs n e hn hv => ?_
      rcases set_at hr with ⟨rfl, e1⟩ | ⟨z, hr⟩
      · rcases set_at hs with ⟨_, e2⟩ | ⟨z, _⟩
        · subst e2
          exact nn ys e1.symm n e hn hv
        · exact z rfl
      · rcases set_at hs with ⟨z2, _⟩ | ⟨_, hs⟩
        · exact z z2
        · exact no p hp j ys hr hs (n + 1) e (by simpa using hn) (by simpa using hv)
/-- a, b = x, y -/
theorem s_par {is : List Nat} {ta : TA} {n : Nat} (hps : PS X st (fun D σ H => ta σ H fun vs H1 => vs.length = n ∧ D.nx (setAllV is vs σ) H1)) (hn : is.length = n) (imp : ∀ σ H Q, TA_ X.K ct W .ow n (ev P F Γ xa).l σ H Q → ta σ H Q) : PS X st (TS_ X.K ct fresh W U0 H0 (evS P F Γ (.par is xa))) :=
  PS.imp hps fun De σ H ⟨U, S, ρ, Kk, b, r, k⟩ => imp σ H _ ⟨U, S, ρ, _, _, b.ok, b.sl, r, fun vs ds U1 S1 H1 hl s1 o1 m1 ⟨q0, q1⟩ => ⟨hl, k.nx U1 S1 H1 _ _ ((b.stp s1 o1).putAll (fun p hp => none_back b.st b.ok hp) m1 q0.symm fun p hp j ys hr hs => (own_old b hp j ys hr hs).elim) (s1.sh b.ok) q1⟩, k.px b⟩
theorem s_parT {is : List Nat} {n : Nat} {as ts : List Expr} {kt k2 : Nat} {pt p2 : Pos} {g : TGs} (ha : PA X as (TA_ X.K ct W .ow n (ev P F Γ xa).l)) (hn : is.length = n) (hz : n ≤ sizeLine) (hg : PG X (.Tuple ts kt pt) (gTup X.K n g)) (hgs : ∀ (vs : List V) (σ : L2.St) (H : Hp) (Q : L2.St → Hp → Prop), vs.length = n → Q (setAllV is vs σ) H → g vs σ H Q)
    (hs : swapsWithSole [.Tuple ts kt pt] (.Tuple as k2 p2) pos.line X.env = pure false) (hw : swappedStores [.Tuple ts kt pt] (.Tuple as k2 p2) X.env = pure none) (h1 : (assignEach [.Tuple ts kt pt] X.env).map (·.2) = [assign (.Tuple ts kt pt) X.env]) :
    PS X (.Assign [.Tuple ts kt pt] (.Tuple as k2 p2) pos) (TS_ X.K ct fresh W U0 H0 (evS P F Γ (.par is xa))) :=
  PS.imp (ps_asg (pe_tup ha) hg hs hw h1) fun De σ H ⟨U, S, ρ, Kk, b, r, k⟩ => ⟨U, S, ρ, _, _, b.ok, b.sl, r, fun vs ds U1 S1 H1 hl s1 o1 m1 ⟨q0, q1⟩ => ⟨by rw [hl]; exact hz, fun p hp =>
    ⟨p, vs, rfl, .inl (.of upd_same), hl, hgs _ _ _ _ hl (k.nx U1 S1 _ _ _ (((b.stp s1 o1).putAll (fun p hp => none_back b.st b.ok hp) m1 q0.symm fun p hp j ys hr hs => (own_old b hp j ys hr hs).elim).stp (Kp.new hp).stp (o1.new hp)) ((s1.sh b.ok).trans (Stp.sh (Kp.new hp).stp o1)) q1)⟩⟩, k.px b⟩
theorem s_par2 {i j : Nat} {x y : Str} {c : Expr} {px py pt : Pos} {kt k2 pt2} (hc : X.calm = true) (hN : X.N.Nodup) (hi : X.N[i]? = some x) (hj : X.N[j]? = some y) (hij : i ≠ j) (hx : X.env.scope.names.lookup x = some .local) (hy : X.env.scope.names.lookup y = some .local)
    (hw : swappedStores [.Tuple [.Name x px, .Name y py] kt pt] (.Tuple [a, c] k2 pt2) X.env = pure (some [x, y])) (hs : swapsWithSole [.Tuple [.Name x px, .Name y py] kt pt] (.Tuple [a, c] k2 pt2) pos.line X.env = pure false)
    (ha : PA X [a, c] (TA_ X.K ct W .ow 2 (ev P F Γ xa).l)) : PS X (.Assign [.Tuple [.Name x px, .Name y py] kt pt] (.Tuple [a, c] k2 pt2) pos) (TS_ X.K ct fresh W U0 H0 (evS P F Γ (.par [i, j] xa))) :=
  s_par (n := 2) (ta := TA_ X.K ct W .ow 2 (ev P F Γ xa).l) (PS.imp (ps_par hc hN hi hj hij hx hy ha hw hs) fun D σ H h => by
    obtain ⟨U, S, ρ, Q, E, ok, sl, r, po, px⟩ := h
    exact ⟨U, S, ρ, Q, E, ok, sl, r, fun vs ds U' S' H' hl s' o' md q => by
      obtain ⟨_, h2⟩ := po vs ds U' S' H' hl s' o' md q
      match vs, hl, h2 with
      | [v, w], _, h2 => exact ⟨v, w, rfl, h2⟩, px⟩) rfl fun _ _ _ h => h
theorem s_par3 {i j l : Nat} {x y z : Str} {c d : Expr} {px py pz pt : Pos} {kt k2 pt2} (hc : X.calm = true) (hN : X.N.Nodup) (hi : X.N[i]? = some x) (hj : X.N[j]? = some y) (hl : X.N[l]? = some z) (hij : i ≠ j) (hil : i ≠ l) (hjl : j ≠ l)
    (hx : X.env.scope.names.lookup x = some .local) (hy : X.env.scope.names.lookup y = some .local) (hz : X.env.scope.names.lookup z = some .local)
    (hw : swappedStores [.Tuple [.Name x px, .Name y py, .Name z pz] kt pt] (.Tuple [a, c, d] k2 pt2) X.env = pure (some [x, y, z])) (hs : swapsWithSole [.Tuple [.Name x px, .Name y py, .Name z pz] kt pt] (.Tuple [a, c, d] k2 pt2) pos.line X.env = pure false)
    (ha : PA X [a, c, d] (TA_ X.K ct W .ow 3 (ev P F Γ xa).l)) : PS X (.Assign [.Tuple [.Name x px, .Name y py, .Name z pz] kt pt] (.Tuple [a, c, d] k2 pt2) pos) (TS_ X.K ct fresh W U0 H0 (evS P F Γ (.par [i, j, l] xa))) :=
  s_par (n := 3) (ta := TA_ X.K ct W .ow 3 (ev P F Γ xa).l) (PS.imp (ps_par3 hc hN hi hj hl hij hil hjl hx hy hz ha hw hs) fun D σ H h => by
    obtain ⟨U, S, ρ, Q, E, ok, sl, r, po, px⟩ := h
    exact ⟨U, S, ρ, Q, E, ok, sl, r, fun vs ds U' S' H' hl s' o' md q => by
      obtain ⟨_, h2⟩ := po vs ds U' S' H' hl s' o' md q
      match vs, hl, h2 with
      | [v, w, u], _, h2 => exact ⟨v, w, u, rfl, h2⟩, px⟩) rfl fun _ _ _ h => h
/-- x.append(e) -/
theorem s_app {i : Nat} {n : Str} {apos cpos p1 : Pos} (hN : X.N[i]? = some n) (hv : Vis X.env.scope n) (hd : (n == ("__debug__" : Str)) = false) (hcd : (n == ("__classdict__" : Str)) = false)
    (hbase : attributeBase (.Name n p1) "append" X.env (eval (.Name n p1) X.env) = eval (.Name n p1) X.env)
    (hfew : ((backTo cpos (starEach [e] X.env)).all (fun x => !x.1) && (backToKw cpos (keywordEach [] X.env)).all (fun x => x.1.isSome)
      && decide ([e].length + ([] : List Keyword).length + (if ([] : List Keyword).isEmpty then 0 else 1) < 30)) = true)
    (hline : (apos.endLine == cpos.line) = true) (hs : starEach [e] X.env = (false, eval e X.env) :: starEach [] X.env) (hplain : (backTo cpos (starEach [] X.env)).any (·.1) = false) (hsw : swapsWith (.Call (.Attribute (.Name n p1) "append" apos) [e] [] cpos) none pos.line X.env = pure false)
    (he : PE X e (TE_ X.K ct W .dn (ev P F Γ xa).e)) : PS X (.Expr (.Call (.Attribute (.Name n p1) "append" apos) [e] [] cpos) pos) (TS_ X.K ct fresh W U0 H0 (evS P F Γ (.app i xa))) :=
  PS.imp (ps_expr (pe_bm PySem.F.plainAttrs_list PySem.F.slot_list_append PySem.F.type_list_append (r := rAppend) mt_append (pe_var hN hv hd hcd) (pa_cons he pa_nil hs) hbase hfew hline hs hplain) hsw) fun De σ H ⟨U, S, ρ, Kk, b, r, k⟩ => by
    obtain ⟨r0, r1⟩ := r
    have hx : ∃ q vs, σ[i]? = some (some (.ref q)) ∧ H q = some (.lst vs) := by
      unfold appPre at r0
      split at r0
      · rename_i ds e
        obtain ⟨x, h1, h2⟩ := b.sl.get i _ e
        cases h2 with
        | of h => nomatch h
        | own k1 k2 k3 => exact ⟨_, _, h1, k2⟩
      · rename_i a e
        cases ec : S a with
        | none => simp only [ec] at r0; cases r0
        | some cell =>
          cases cell with
          | lst ds =>
            obtain ⟨x, h1, h2⟩ := b.sl.get i _ e
            cases h2 with
            | of h => cases h with
              | ptr k1 =>
                obtain ⟨vs, g1, g2⟩ := b.ok.cell a _ ec
                exact ⟨a, vs, h1, g1⟩
          | _ => simp only [ec] at r0; cases r0
      · cases r0
    obtain ⟨q, vs0, hx, hq⟩ := hx
    refine ⟨.ref q, hx, .inl ⟨rfl, vs0, .inl (.inl hq)⟩, U, S, ρ, _, _, b.ok, b.sl, r1, fun v d U1 S1 H1 s1 o1 m1 q1 => ?_, k.px b⟩
    have b1 := b.stp s1 o1
    split at q1
    · rename_i ds e
      obtain ⟨hlen, q1⟩ := q1
      obtain ⟨x', h1, h2⟩ := b1.sl.get i _ e
      rw [hx] at h1; cases h1
      cases h2 with
      | of h => nomatch h
      | @own _ vs _ k1 k2 k3 =>
        exact ⟨q, vs, v, rfl, rfl, k2, by rw [k3.length, ← sl_line]; exact hlen, k.nx _ _ _ _ _ (b1.mutOwn (xs := vs) e hx (k3.append (.cons m1 .nil))) ((s1.sh b.ok).trans ⟨StW.mut (by rw [k1]; decide), fun _ h => h⟩) q1⟩
    · rename_i a e
      cases ec : S1 a with
      | none => simp only [ec] at q1
      | some cell =>
        cases cell with
        | lst ds =>
          simp only [ec] at q1
          obtain ⟨hlen, q1⟩ := q1
          obtain ⟨x', h1, h2⟩ := b1.sl.get i _ e
          rw [hx] at h1; cases h1
          cases h2 with
          | of h => cases h with
            | ptr k1 =>
              obtain ⟨vs, g1, g2⟩ := o1.cell q _ ec
              have ksh : U1 q ≠ .sh := by rw [k1]; decide
              exact ⟨q, vs, v, rfl, rfl, g1, by rw [g2.length, ← sl_line]; exact hlen, k.nx _ _ _ _ _ (b1.mutCe (c := .lst (ds ++ [d])) k1 (o1.cellT ec) ⟨_, upd_same, (g2.append (.cons m1 .nil)).mut ksh⟩) ((s1.sh b.ok).trans ⟨StW.mut ksh, fun _ h => h⟩) q1⟩
        | _ => simp only [ec] at q1
    · exact q1.elim
/-- x += e, ints -/
theorem s_aug {i : Nat} {n : Str} {pos' : Pos} (nd : X.N.Nodup) (hi : X.N[i]? = some n) (hx : Loc X.env.scope n) (hf : X.fn n = true ∨ X.env.scope.names.lookup n = some .local) (he : PE X e (TE_ X.K ct W .dn (ev P F Γ xa).e)) :
    PS X (.AugAssign (.Name n pos') .Add e pos) (TS_ X.K ct fresh W U0 H0 (evS P F Γ (.aug i xa))) :=
  PS.imp (ps_aug (ti := rAdd) nd hi hx he in_add hf) fun De σ H ⟨U, S, ρ, Kk, b, r, k⟩ => by
    have r : getV ρ i (fun x => (ev P F Γ xa).e ρ S (fun y S => match x, y with
      | .int i', .int j' => Kk.nx (ρ.set i (some (.int (i' + j')))) S
      | _, _ => False) (Kk.ex ρ)) := r
    unfold getV at r
    split at r
    · exact r.elim
    · exact r.elim
    · exact r.elim
    · next d n1 n2 n3 e' =>
      obtain ⟨v, h1, h2⟩ := b.sl.get i d e'
      have dn := h2.dn (fun xs z => n1 xs z) (fun xs z => n2 xs z) (fun j z => n3 j z)
      refine ⟨v, h1, U, S, ρ, _, _, b.ok, b.sl, r, fun w dw U1 S1 H1 s1 o1 m1 q1 => ?_, k.px b⟩
      cases d with
      | int i' =>
        cases dw with
        | int j' =>
          cases dn
          cases (show Dn X.K ct U1 H1 w (.int j') from m1)
          exact ⟨i', j', rfl, rfl, k.nx _ _ _ _ _ ((b.stp s1 o1).put (.int _)) (s1.sh b.ok) q1⟩
        | _ => exact q1.elim
      | _ => exact q1.elim
    · exact r.elim
theorem putF_new : ∀ {fl : List Str} {xs : List V} {f : Str} {y : V}, fl.Nodup → fl[xs.length]? = some f → putF f y (fl.zip xs) = fl.zip (xs ++ [y])
  | [], xs, f, y, _, h => by simp at h
  | g :: fl, [], f, y, _, h => by
    simp at h; subst h
    simp [putF]
  | g :: fl, x :: xs, f, y, nd, h => by
    have h' : fl[xs.length]? = some f := by simpa using h
    have hne : g ≠ f := fun z => (List.nodup_cons.mp nd).1 (z ▸ List.mem_of_getElem? h')
    show (if g = f then _ else (g, x) :: putF f y (fl.zip xs)) = _
    rw [if_neg hne, putF_new (List.nodup_cons.mp nd).2 h']
    rfl
theorem putF_old : ∀ {fl : List Str} {xs : List V} {f : Str} {y : V} {j : Nat}, fl.Nodup → fl[j]? = some f → j < xs.length → putF f y (fl.zip xs) = fl.zip (xs.set j y)
  | [], xs, f, y, j, _, h, _ => by simp at h
  | g :: fl, [], f, y, j, _, h, hj => by simp at hj
  | g :: fl, x :: xs, f, y, 0, nd, h, hj => by
    simp at h; subst h
    simp [putF]
  | g :: fl, x :: xs, f, y, j + 1, nd, h, hj => by
    have h' : fl[j]? = some f := by simpa using h
    have hne : g ≠ f := fun z => (List.nodup_cons.mp nd).1 (z ▸ List.mem_of_getElem? h')
    show (if g = f then _ else (g, x) :: putF f y (fl.zip xs)) = _
    rw [if_neg hne, putF_old (List.nodup_cons.mp nd).2 h' (by simpa using hj)]
    rfl
/-- x.f = e, x an instance of the store -/
theorem s_setAt {i at_ : Nat} {n f : Str} {p1 pos' : Pos} {ats : List Str} (hat : ats[at_]? = some f) (CF : ∀ c cl, P.cls[c]? = some cl → ClF X.K ct ats c cl) (hN : X.N[i]? = some n) (hv : Vis X.env.scope n) (hd : (n == ("__debug__" : Str)) = false) (hcd : (n == ("__classdict__" : Str)) = false)
    (hs : swapsWith e (some (.Attribute (.Name n p1) f pos')) pos.line X.env = pure false) (he : PE X e (TE_ X.K ct W .dn (ev P F Γ xa).e)) : PS X (.Assign [.Attribute (.Name n p1) f pos'] e pos) (TS_ X.K ct fresh W U0 H0 (evS P F Γ (.setAt i at_ xa))) :=
  PS.imp (ps_fld (pe_var hN hv hd hcd) he hs) fun De σ H ⟨U, S, ρ, Kk, b, r, k⟩ => ⟨U, S, ρ, _, _, b.ok, b.sl, r, fun v d U1 S1 H1 s1 o1 m1 q1 => by
    have b1 := b.stp s1 o1
    unfold setAtD at q1
    split at q1
    · rename_i a e'
      obtain ⟨x, hx, h2⟩ := b1.sl.get i _ e'
      cases h2 with
      | of h => cases h with
        | ptr k1 =>
          cases ec : S1 a with
          | none => simp only [ec] at q1
          | some cell =>
            cases cell with
            | ins c fs =>
              simp only [ec] at q1
              cases hcl : P.cls[c]? with
              | none => simp only [hcl] at q1
              | some cl =>
                simp only [hcl] at q1
                have cf := CF c cl hcl
                cases hn : cl.at at_ with
                | none => simp only [hn] at q1
                | some atv =>
                  simp only [hn] at q1
                  cases atv with
                  | fld j =>
                    simp only at q1
                    obtain ⟨f', e1, e2, na⟩ := cf.fld at_ j hn
                    rw [hat] at e1; cases e1
                    obtain ⟨dx, xs, g1, g2, g3⟩ := o1.cell a _ ec
                    have hj : j < (ct.fl c).length := (List.getElem?_eq_some_iff.mp e2).1
                    have ksh : U1 a ≠ .sh := by rw [k1]; decide
                    refine ⟨.ref a, hx, a, ct.ad c, dx, _, rfl, g1, cf.cls, na, ?_, ?_⟩
                    · have := cf.sm
                      have := cf.nf
                      rw [List.length_zip]; omega
                    · split at q1
                      · rename_i hje
                        have e3 : (ct.fl c)[xs.length]? = some f := by rw [g3.length, ← hje]; exact e2
                        rw [putF_new cf.nd e3]
                        exact k.nx _ _ _ _ _ (b1.mutCe (c := .ins c (fs ++ [d])) k1 (o1.cellT ec) ⟨dx, _, upd_same, by rw [List.length_append, g3.length, ← hje]; exact hj, (g3.append (.cons m1 .nil)).mut ksh⟩) ((s1.sh b.ok).trans ⟨StW.mut ksh, fun _ h => h⟩) q1
                      · obtain ⟨hlt, q1⟩ := q1
                        rw [putF_old cf.nd e2 (by rw [g3.length]; exact hlt)]
                        exact k.nx _ _ _ _ _ (b1.mutCe (c := .ins c (fs.set j d)) k1 (o1.cellT ec) ⟨dx, _, upd_same, by rw [List.length_set]; exact g2, (g3.set m1 j).mut ksh⟩) ((s1.sh b.ok).trans ⟨StW.mut ksh, fun _ h => h⟩) q1
                  | _ => simp only at q1
            | _ => simp only [ec] at q1
    · exact q1.elim, k.px b⟩
end
end Sb
set_option linter.all false
set_option maxRecDepth 100000
set_option maxHeartbeats 4000000
set_option autoImplicit false
/-! AK: sorted(xs, key=f) where a key may hold lists that stood before the call. -/
namespace Sb
open PySem PySem.Calls PyProof.Rows PySem.W
section
variable {pg : Program} {w : World} {A : Around} {E : Value → Shared → Prop} {s : Shared} {a kS : Addr} {vs : List Value} {ds : List PyData} {e1 : Nat} {P : PySem.Fin → Shared → Prop}
/-- a key's value: it reads as d off lists that stood in g -/
def KeyV (g h : Heap) (v : Value) (d : PyData) : Prop := (∃ as, Reads h v d as ∧ ∀ c, c ∈ as → g.get? c ≠ none) ∧ alike d d = true
/-- what a call of the key does -/
def KeyOf (g : Heap) (d : PyData) (t : Shared) (v : Value) (t' : Shared) : Prop :=
  ∃ h' n, t' = { t with heap := h', toks := n } ∧ (∀ b o, t.heap.get? b = some o → h'.get? b = some o) ∧ ∃ as, Reads h' v d as ∧ ∀ c, c ∈ as → g.get? c ≠ none
theorem KeyV.up {g h h' : Heap} {v : Value} {d : PyData} (q : KeyV g h v d) (k : ∀ b o, h.get? b = some o → h'.get? b = some o) : KeyV g h' v d := by
  obtain ⟨⟨as, r, z⟩, al⟩ := q
  exact ⟨⟨as, PyProof.Rows.Reads.keeps k r, z⟩, al⟩
theorem KeyV.but {g h h' : Heap} {v : Value} {d : PyData} {b : Addr} {ks : Array Value} {n : Nat} (q : KeyV g h v d) (k : ∀ c o, c ≠ b → h.get? c = some o → h'.get? c = some o) (hb : h.get? b = some (seqObj "list" ks n)) (nb : g.get? b = none) : KeyV g h' v d := by
  obtain ⟨⟨as, r, z⟩, al⟩ := q
  refine ⟨⟨as, Reads.keepBut (a := b) k (fun o e => ?_) d v as al r (fun m => z _ m nb), z⟩, al⟩
  rw [hb] at e; cases e; rfl
/-- the state of the turns -/
structure Turns (g : Heap) (a kS : Addr) (e1 : Nat) (ds : List PyData) (s : Shared) (i : Nat) (t : Shared) (h' : Heap) (tk : Nat) (kA : Array Value) (e : Nat) : Prop where
  st : t = { s with heap := h', toks := tk }
  kp : KeepsBut a g h'
  nk : h'.get? kS = some (seqObj "list" kA e)
  na : h'.get? a = some (seqObj "list" #[] e1)
  ks : EachIs (KeyV g h') kA.toList (ds.take i)
theorem key_rest {f : Value} {g : Heap} (kp : KeepsBut a g s.heap) (nS : g.get? kS = none) (nk : s.heap.get? kS = some (seqObj "list" #[] 0)) (na : s.heap.get? a = some (seqObj "list" #[] e1)) (hka : kS ≠ a) (hl : ds.length = vs.length) (hZ : vs.length ≤ sizeLine)
    (hal : AllAlike ds) (hsk : Sortable ds) (hu : ∀ d, d ∈ ds → A.units + d.depth < cLine) (turn : ∀ (i : Nat) (v : Value) (d : PyData), vs[i]? = some v → ds[i]? = some d → ∀ (h : Heap) (n : Nat), KeepsBut a g h →
      wpAny (model pg w) A (call f [v]) (KeyOf g d { s with heap := h, toks := n }) (fun _ _ => False) { s with heap := h, toks := n })
    (fin : ∀ h' n out c, KeepsBut a g h' → h'.get? a = some (seqObj "list" (List.toArray out) c) → KeyedOut false ds vs out → P (.done (.ret .none)) { s with heap := h', toks := n }) :
    wpAny (model pg w) A (ksk_rest a f false vs.toArray e1 (.ref kS)) P E s := by
  unfold ksk_rest
  refine wpAny_bind (wpAny_rule ?_)
  first | rw [List.forIn_toArray] | (rw [← Array.forIn_toList]; simp only [List.toList_toArray]) | rw [← Array.forIn_toList]
  have z0 : Turns g a kS e1 ds s 0 s s.heap s.toks #[] 0 := ⟨rfl, kp, nk, na, by rw [List.take_zero]; exact .nil⟩
  refine wpAny_bind (ksk_fold (fun i t => ∃ h' tk kA e, Turns g a kS e1 ds s i t h' tk kA e) vs 0 s ⟨_, _, _, _, z0⟩ (fun j x t hx hI => ?_) (fun t hI => ?_))
  · obtain ⟨h', tk, kA, e, T⟩ := hI
    obtain rfl := T.st
    rw [Nat.zero_add] at T ⊢
    have jl : j < ds.length := by rw [hl]; exact (List.getElem?_eq_some_iff.mp hx).1
    have hd : ds[j]? = some ds[j] := List.getElem?_eq_getElem jl
    have al : alike ds[j] ds[j] = true := hal _ (List.getElem_mem jl) _ (List.getElem_mem jl)
    have kl : kA.size ≤ vs.length := by
      have q := T.ks.length
      rw [Array.length_toList, List.length_take] at q; omega
    refine wpAny_bind (wpAny_attempt (wpAny_mono (turn j x _ hx hd h' tk T.kp) (fun v t' q => ?_) fun _ _ z => z.elim))
    obtain ⟨g', n', rfl, hg, hr⟩ := q
    dsimp only at hg ⊢
    have nk' := hg _ _ T.nk
    have na' := hg _ _ T.na
    have U := Heap.SameBut.update g' kS (Obj.mapSeq (·.push v))
    obtain ⟨c2, hc2⟩ : ∃ c, (g'.update kS (Obj.mapSeq (·.push v))).get? kS = some (seqObj "list" (kA.push v) c) := ⟨_, get?_update_seq nk' (·.push v)⟩
    refine wpAny_bind (listUpdate_at nk' rfl ?_ (Nat.le_trans kl hZ) (by rw [Array.size_push]; omega))
    have up : ∀ (u : Value) (d : PyData), KeyV g g' u d → KeyV g (g'.update kS (Obj.mapSeq (·.push v))) u d := fun u d q => q.but (fun b o hb z => (U.2 b hb).trans z) nk' nS
    refine wpAny_pure ⟨rfl, _, _, kA.push v, c2, rfl, (T.kp.trans_all hg).same U (.inr nS), hc2, (U.2 a hka.symm).trans na', ?_⟩
    rw [List.take_add_one, hd, Array.toList_push]
    exact each_snoc (up v _ ⟨hr, al⟩) (T.ks.mono fun u d q => up u d (q.up hg))
  · obtain ⟨h', tk, kA, e, T⟩ := hI
    obtain rfl := T.st
    have q := T.ks
    rw [Nat.zero_add, List.take_of_length_le (by omega)] at q
    have kz : kA.size = vs.length := by rw [← hl, ← q.length, Array.length_toList]
    have rs : EachIs (fun v d => ∃ as, Reads h' v d as) kA.toList ds := q.mono fun v d z => z.1.elim fun as y => ⟨as, y.1⟩
    refine wpAny_bind (listItems_at T.nk rfl ?_)
    refine keyH_end (κ := dataKind h' ds) (h₁ := g) T.kp nS T.nk T.na hka (SortsAt.data (s := { s with heap := h', toks := tk }) rs hal hsk hu) kz hZ fun h3 n3 c k3 z3 => ?_
    exact fin h3 n3 _ c k3 z3 ⟨h', kA.toList, hal, rfl, rs⟩
theorem key_tree {f : Value} {n : Nat} (ho : s.heap.get? a = some (seqObj "list" vs.toArray n)) (hl : ds.length = vs.length) (hZ : vs.length ≤ sizeLine) (hal : AllAlike ds) (hsk : Sortable ds) (hu : ∀ d, d ∈ ds → A.units + d.depth < cLine)
    (turn : ∀ (i : Nat) (v : Value) (d : PyData), vs[i]? = some v → ds[i]? = some d → ∀ (h : Heap) (n : Nat), KeepsBut a s.heap h → wpAny (model pg w) A (call f [v]) (KeyOf s.heap d { s with heap := h, toks := n }) (fun _ _ => False) { s with heap := h, toks := n })
    (fin : ∀ h' n out c, KeepsBut a s.heap h' → h'.get? a = some (seqObj "list" (List.toArray out) c) → KeyedOut false ds vs out → P (.done (.ret .none)) { s with heap := h', toks := n }) :
    wpAny (model pg w) A (ksk_tree a f false) P E s := by
  have la := Heap.lt_size ho
  obtain ⟨e1, o1⟩ : ∃ e1, (s.heap.update a (Obj.mapSeq fun _ => (#[] : Array Value))).get? a = some (seqObj "list" #[] e1) := ⟨_, get?_update_seq ho fun _ => #[]⟩
  have sz : ((s.heap.update a (Obj.mapSeq fun _ => (#[] : Array Value))).push (seqObj "tuple" vs.toArray 0)).objs.size = s.heap.objs.size + 1 := by rw [size_push', Heap.size_update]
  unfold ksk_tree
  refine wpAny_bind (listItems_at ho rfl (wpAny_bind (listUpdate_at ho rfl ?_ (by rw [List.size_toArray]; exact hZ) (Nat.zero_le _))))
  refine wpAny_bind (seqEpoch_at o1 rfl (wpAny_bind (wpAny_newTuple (wpAny_bind (wpAny_newList (wpAny_holding ?_) (Nat.zero_le _))) (by show vs.length ≤ _; exact hZ))))
  refine key_rest (ds := ds) (g := s.heap) (s := { s with heap := ((s.heap.update a (Obj.mapSeq fun _ => (#[] : Array Value))).push (seqObj "tuple" vs.toArray 0)).push (seqObj "list" #[] 0) })
    (kS := ((s.heap.update a (Obj.mapSeq fun _ => (#[] : Array Value))).push (seqObj "tuple" vs.toArray 0)).objs.size) ?_ ?_ (Heap.get?_push_size _ rfl) (Heap.get?_push_of_some _ (Heap.get?_push_of_some _ o1)) ?_ hl hZ hal hsk hu turn fin
  · exact fun b o hb q => sortingHeap_old hb q
  · exact Heap.get?_none_of_le (by rw [sz]; omega)
  · rw [sz]; exact Nat.ne_of_gt (Nat.lt_succ_of_lt la)
end
section
variable {pg : Program} {w : World} {A : Around} {E : Value → Shared → Prop} {s : Shared} {β : Type} {vs : List Value} {bs : List β} {R : Value → β → Prop}
/-- sorted(xs, key=f) -/
theorem key_sorted {l q : Addr} {Q : Value → Shared → Prop} (k : β → PyData) (hl : s.heap.IsList l vs.toArray) (e : EachIs R vs bs) (hal : AllAlike (bs.map k)) (hk : Sortable (bs.map k)) (hL : bs.length ≤ sizeLine) (hu : ∀ x, x ∈ bs → A.units + 2 + (k x).depth < cLine)
    (ha1 : argsOk "sorted" ⟨[.ref l], [(Str.ofString "key", .ref q)]⟩) (ha2 : ∀ x, argsOk "list.sort" ⟨[.ref x], [(Str.ofString "key", .ref q)]⟩)
    (turn : ∀ (v : Value) (x : β), R v x → x ∈ bs → ∀ (h : Heap) (n : Nat), (∀ b o, s.heap.get? b = some o → h.get? b = some o) → wpAny (model pg w) A.in1.in1 (call (.ref q) [v]) (KeyOf s.heap (k x) { s with heap := h, toks := n }) (fun _ _ => False) { s with heap := h, toks := n })
    (fin : ∀ out c h' n, (∀ b o, s.heap.get? b = some o → h'.get? b = some o) → s.heap.get? (s.heap.objs.size + 1) = none → h'.get? (s.heap.objs.size + 1) = some (seqObj "list" (List.toArray out) c) → EachIs R out (bs.mergeSort (dataLe false k)) →
      Q (.ref (s.heap.objs.size + 1)) { s with heap := h', toks := n }) : wpAny (model pg w) A (call (.builtin "sorted") [.ref l] [(Str.ofString "key", .ref q)]) Q E s := by
  have up : ∀ {g : Heap}, KeepsBut (s.heap.objs.size + 1) (copyHeap s.heap vs) g → ∀ b o, s.heap.get? b = some o → g.get? b = some o := fun kp b o z => kp b o (Nat.ne_of_lt (Nat.lt_succ_of_lt (Heap.lt_size z))) (copyHeap_old z)
  refine sorted_of_sort hl (by rw [e.length]; exact hL) ha1 ha2 fun E' => ?_
  rw [ksk_t1]
  refine key_tree (ds := bs.map k) (s := { s with heap := copyHeap s.heap vs }) (copyHeap_at s.heap vs) (by rw [List.length_map, e.length]) (by rw [e.length]; exact hL) hal hk (bound_map (A := A.in1.in1) hu) (fun i v d hv hd h n kp => ?_) fun h' n out c kp hD ko => ⟨rfl, ?_⟩
  · rw [List.getElem?_map] at hd
    obtain ⟨x, hx, rfl⟩ := Option.map_eq_some_iff.mp hd
    have hz : (v, x) ∈ vs.zip bs := List.mem_of_getElem? (i := i) (List.getElem?_zip_eq_some.mpr ⟨hv, hx⟩)
    refine wpAny_mono (turn v x (e.zip _ hz) (List.mem_of_getElem? hx) h n (up kp)) (fun u t y => ?_) fun _ _ z => z
    obtain ⟨h2, n2, et, k2, as, r2, o2⟩ := y
    refine ⟨h2, n2, et, k2, as, r2, fun c hc z => ?_⟩
    cases o : s.heap.get? c with
    | none => exact o2 c hc o
    | some ob => rw [copyHeap_old o] at z; cases z
  · exact fin out c h' n (up kp) (Heap.get?_none_of_le (Nat.le_succ _)) hD (keyedOut_each k ko e)
end
end Sb
#print axioms Sb.key_sorted
set_option linter.all false
set_option maxRecDepth 100000
set_option maxHeartbeats 4000000
set_option autoImplicit false
/-! AL: the call of a lambda with one parameter, at the heap alone. -/
namespace Sb
open PySem PySem.Calls PyProof.Rows PySem.W
theorem rdl_len {h : Heap} : ∀ {vs : List Value} {ds : List PyData} {as : List Addr}, ReadsAll h vs ds as → vs.length = ds.length
  | _, _, _, .nil => rfl
  | _, _, _, .cons _ t => congrArg (· + 1) (rdl_len t)
section
variable {pg : Program} {w : World} {A : Around} {s : Shared}
/-- f(v), where f is a lambda with one parameter (a local one, no cells): its body, in a new frame -/
theorem lam_call1 {f c' : Addr} {v pm ctv : Value} {row qual : Str} {params : Arguments} {body : Expr} {scope : Scope} {cl : List (Str × Addr)} {Q : Value → Shared → Prop} (rm : A.depth < recursionLimit)
    (hf : s.heap.get? f = some (kla_obj "<lambda>" qual params body scope cl pm c' ctv)) (hc : ∃ (oc : Obj) (us : Array Value) (t : Tok), s.heap.get? c' = some oc ∧ oc.data = .fields us ∧ us[1]? = some (.str qual t))
    (kd : scope.kind = .function) (co : scope.isCoroutine = false) (ge : scope.isGenerator = false) (nc : ∀ x ∈ scope.names, x.2 ≠ .cell) (lo : scope.names.lookup row = some .local) (lim : s.heap.NoLimit)
    (hb : bindArgs (kla_fn "<lambda>" qual params body scope cl pm (.ref c') ctv) ⟨[v], []⟩ = pure [(row, v)])
    (h : ∀ (env : PySem.Env) (h1 : Heap), env = newEnv scope s.heap.objs.size mainGlobals cl (qual ++ ".<locals>.") (some f) (.ref c') none builtinsNs → h1.Ns s.heap.objs.size (fun x => [(row, v)].lookup x) → (∀ b o, s.heap.get? b = some o → h1.get? b = some o) →
      wpAny (model pg w) (A.deeper env) (eval body env) Q (fun _ _ => False) { s with heap := h1, toks := s.toks + 1 }) :
    wpAny (model pg w) A (call (.ref f) [v]) Q (fun _ _ => False) s := by
  obtain ⟨oc, us, t, h1, h2, h3⟩ := hc
  refine wpAny_call (kla_callFunE rm hf rfl co ge rfl ⟨c', oc, us, t, rfl, h1, h2, h3⟩ ?_)
  rw [hb]
  refine wpAny_pure (wpAny_newFunctionEnv nc (fun x hx => ?_) (fun g hns sb => ?_) kd)
  · rw [List.mem_singleton] at hx
    rw [hx]; exact lo
  · have up : ∀ b o, s.heap.get? b = some o → g.get? b = some o := fun b o e => (sb.2 b (Nat.ne_of_lt (Heap.lt_size e))).trans (Heap.get?_push_of_some _ e)
    refine ⟨lim.keeps up, kla_codeExpr (wpAny_mono (h _ g rfl hns up) (fun _ _ q => q) fun _ _ z => (show False from z).elim)⟩
/-- f(row), f = lambda row: (len(row), row), at a list that stood in g -/
theorem lam_lenrow {g : Heap} {f c' l : Addr} {pm ctv : Value} {row qual : Str} {params : Arguments} {scope : Scope} {cl : List (Str × Addr)} {ds : List PyData} {as : List Addr} {mg mb : Str → Option Value} {x1 : Nat} {p1 p2 p3 p4 p5 : Pos} (rm : A.depth < recursionLimit)
    (hf : s.heap.get? f = some (kla_obj "<lambda>" qual params (.Tuple [.Call (.Name "len" p1) [.Name row p2] [] p3, .Name row p4] x1 p5) scope cl pm c' ctv)) (hc : ∃ (oc : Obj) (us : Array Value) (t : Tok), s.heap.get? c' = some oc ∧ oc.data = .fields us ∧ us[1]? = some (.str qual t))
    (kd : scope.kind = .function) (co : scope.isCoroutine = false) (ge : scope.isGenerator = false) (nc : ∀ x ∈ scope.names, x.2 ≠ .cell) (lo : scope.names.lookup row = some .local) (ll : scope.names.lookup ("len" : Str) = some .globalImplicit) (lim : s.heap.NoLimit)
    (hb : bindArgs (kla_fn "<lambda>" qual params (.Tuple [.Call (.Name "len" p1) [.Name row p2] [] p3, .Name row p4] x1 p5) scope cl pm (.ref c') ctv) ⟨[.ref l], []⟩ = pure [(row, .ref l)])
    (G : s.heap.Ns mainGlobals mg) (B : s.heap.Ns builtinsNs mb) (m1 : mg "len" = none) (m2 : mb "len" = bootBuiltins "len") (dr : (row == ("__debug__" : Str)) = false)
    (rd : Reads s.heap (.ref l) (.list ds) as) (sz : ds.length ≤ sizeLine) (old : ∀ c, c ∈ as → g.get? c ≠ none) :
    wpAny (model pg w) A (call (.ref f) [.ref l]) (KeyOf g (.tuple [.int ds.length, .list ds]) s) (fun _ _ => False) s := by
  refine lam_call1 rm hf hc kd co ge nc lo lim hb fun env h1 he hns up => ?_
  have kE : env.scope.kind = .function := by rw [he]; exact kd
  have kO : ∀ y, env.kindOf y = scope.names.lookup y := fun y => by rw [he]; rfl
  have gE : env.globals = mainGlobals := by rw [he]; rfl
  have bE : env.builtins = builtinsNs := by rw [he]; rfl
  have lE : env.locals = s.heap.objs.size := by rw [he]; rfl
  have one : [(row, Value.ref l)].lookup row = some (.ref l) := by simp [List.lookup]
  have rd1 := PyProof.Rows.Reads.keeps up rd
  obtain ⟨o, vs, n, bs, g1, g2, g3, g4, eas⟩ : ∃ (o : Obj) (vs : Array Value) (n : Nat) (bs : List Addr), h1.get? l = some o ∧ o.cls = .type "list" ∧ o.data = .seq vs n ∧ ReadsAll h1 vs.toList ds bs ∧ as = l :: bs := by
    cases rd1 with
    | list z1 z2 z3 z4 => exact ⟨_, _, _, _, z1, z2, z3, z4, rfl⟩
  have hlen : vs.size = ds.length := by
    have q := rdl_len g4
    rwa [Array.length_toList] at q
  have ld : ∀ {p : Pos} {Q : Value → Shared → Prop} {E : Value → Shared → Prop} {tk : Nat}, Q (.ref l) { s with heap := h1, toks := tk } → wpAny (model pg w) (A.deeper env) (eval (.Name row p) env) Q E { s with heap := h1, toks := tk } := fun q =>
    wpAny_Name (wpAny_loadName_local kE ((kO row).trans lo) (by rw [lE]; exact hns) one q) dr
  refine wpAny_Tuple_spliced (Calls.spliced_cons ?_)
  refine Call_ (Calls.Name_function_global kE ((kO _).trans ll) (Calls.loadGlobal_builtin (by rw [gE]; exact G.keeps up) m1 (by rw [bE]; exact B.keeps up) m2 ?_))
  refine callWith_builtin1 (ld (len_list ⟨o, g1, g2, n, g3⟩ (by rw [hlen]; unfold sizeLine at sz; omega) ?_))
  refine Calls.spliced_cons (ld (Calls.spliced_nil ⟨show 2 ≤ sizeLine by decide, ?_⟩))
  refine ⟨_, _, rfl, fun b o e => Heap.get?_push_of_some _ (up b o e), as, ?_, old⟩
  rw [hlen, eas]
  rw [eas] at rd1
  have rd2 : Reads (h1.push { cls := .type "tuple", data := .seq #[.int ds.length (s.toks + 1 + 1), .ref l] }) (.ref l) (.list ds) (l :: bs) := PyProof.Rows.Reads.keeps (fun b o e => Heap.get?_push_of_some _ e) rd1
  have t := Reads.tuple (xs := [.int ds.length, .list ds]) (Heap.get?_push_size h1 (o := { cls := .type "tuple", data := .seq #[.int ds.length (s.toks + 1 + 1), .ref l] }) rfl) rfl rfl (.cons (.int _ _) (.cons rd2 .nil))
  simpa using t
end
end Sb
#print axioms Sb.lam_call1
set_option linter.all false
set_option maxRecDepth 100000
set_option maxHeartbeats 4000000
set_option autoImplicit false
/-! AM: a lambda is made, the tables with their kinds. -/
namespace Sb
open PySem PySem.Spec PyProof.Rows L2
section
variable {X : Cx} {pins : List (Addr × Obj)} {σ : L2.St} {H : Hp} {s : Shared} {ct : CT} {U : Um} {S : Store}
/-- what the making of a lambda leaves of the tracked heap -/
inductive Made (U : Um) (P : Addr) (q : Str) (pos : Pos) (H : Hp) (c' : Addr) : Hp → Prop
  | old : H c' = some (LamX.CodeO c' q) → U c' = .sh → Made U P q pos H c' H
  | new {ps : Array Value} : H P = some (.tbl ps) → H c' = none → Made U P q pos H c' (upd (upd H P (.tbl (ps ++ #[rawInt pos.line, rawInt pos.col, .ref c']))) c' (LamX.CodeO c' q))
theorem ntabR' {a : Addr} {p : Addr × Str} (h : ¬ ct.tab a) (hp : p ∈ ct.tb) : a ≠ p.1 := fun z => h (by rw [z]; exact List.mem_map_of_mem hp)
theorem lam_make {c P : Addr} {q : Str} {params : Arguments} {body : Expr} {scope : Scope} {pos : Pos} {E Q : Value → Shared → Prop} (I : Inv X pins σ H s) (TB : LamX.TabB X.base X.mg c P) (cod : X.env.code = .ref c) (eq : q = X.env.qual ++ "<lambda>")
    (tab : TabU U H (P, q)) (df : defaultsOf params X.env = ([], [])) (fr : ∀ y ∈ scope.names, y.2 = .free → ∃ c, X.env.cells.lookup y.1 = some c)
    (k : ∀ (f c' : Addr) (pm ctv : Value) (H1 : Hp) (s' : Shared), Inv X pins σ H1 s' → Made U P q pos H c' H1 → s'.heap.get? f = some (PySem.W.kla_obj "<lambda>" q params body scope (cloFrom X.env.cells scope.names []) pm c' ctv) → H1 f = none → f ∉ frs X.stack → Q (.ref f) s') :
    wpAny (model X.prog X.w) X.A (eval (.Lambda params body scope pos) X.env) Q E s := by
  subst eq
  obtain ⟨ps, hP, tr, am⟩ := tab
  have bP := TB.bm.keeps I.bk
  have oP : s.heap.get? P = some { cls := .none, data := .fields ps } := I.hok P _ hP
  have nofr : ∀ f, s.heap.objs.size ≤ f → f ∉ frs X.stack := fun f hf z => by
    rcases List.mem_cons.mp (I.stkSub _ z) with e | e
    · have h1 := I.lt
      rw [← e] at h1
      exact Nat.lt_irrefl _ (Nat.lt_of_lt_of_le h1 hf)
    · exact I.nofs hf e
  refine PySem.W.kla_eval df ?_
  cases hc : codeAmong pos ps.toList with
  | some cv =>
    obtain ⟨c', rfl, hco, hsh⟩ := am pos cv hc
    refine PySem.W.kla_makeFunctionHit (ps := ps) (closure_ok fr) I.ok.glob (I.mod.glob.keeps I.bk) cod (TB.code.keeps I.bk) oP tr hc bP fun ctv h' tk hx hsz => ?_
    exact k _ c' _ ctv H _ (I.kept fun b o e => Heap.get?_push_of_some _ (hx b o e)) (.old hco hsh) (Heap.get?_push_size _ rfl) (I.hok.fresh hsz) (nofr _ hsz)
  | none =>
    refine PySem.W.kla_makeFunction (ps := ps) (closure_ok fr) I.ok.glob (I.mod.glob.keeps I.bk) cod (TB.code.keeps I.bk) oP tr hc TB.gP bP fun c' ctv h' tk hx hge hlt hrec htb => ?_
    obtain ⟨_, oc, us, t, e2, hoc, hd, hv⟩ := hrec
    cases e2
    have big : s.heap.objs.size ≤ h'.objs.size := Nat.le_trans hge (Nat.le_of_lt hlt)
    have nC : H c' = none := I.hok.fresh hge
    have J := LamX.inv_table (t' := tk) (more := #[rawInt pos.line, rawInt pos.col, .ref c']) (h' := h'.push (PySem.W.kla_obj "<lambda>" (X.env.qual ++ "<lambda>") params body scope (cloFrom X.env.cells scope.names []) ((X.mg "__name__").getD .none) c' ctv)) I hP
      (fun b o hb e => Heap.get?_push_of_some _ (hx b o hb e)) (Heap.get?_push_of_some _ htb) hge ⟨oc, us, t, Heap.get?_push_of_some _ hoc, hd, hv⟩
    refine k h'.objs.size c' _ ctv _ _ J (.new hP nC) (Heap.get?_push_size _ rfl) ?_ (nofr _ big)
    rw [upd_ne (Nat.ne_of_gt hlt), upd_ne (Nat.ne_of_gt (Nat.lt_of_lt_of_le (Heap.lt_size oP) big))]
    exact I.hok.fresh big
/-- .. and all stays well -/
theorem Made.ok {K : PySem.W.Frag} {P c' : Addr} {q : Str} {pos : Pos} {H1 : Hp} (o : Ok K ct U S H) (m : Made U P q pos H c' H1) (hp : (P, q) ∈ ct.tb) (uq : ∀ r, (P, r) ∈ ct.tb → r = q) : Ok K ct U S H1 ∧ Stp U H U H1 ∧ H1 c' = some (LamX.CodeO c' q) ∧ StW U H U H1 ∧ U c' = .sh := by
  cases m with
  | old h hs => exact ⟨o, .refl, h, Stp.refl.w, hs⟩
  | new hP hc =>
    rename_i ps
    have kP : U P = .ce := o.tce hp
    have nPc : P ≠ c' := ne_of_none hP hc
    have keep : ∀ a u, H a = some u → a ≠ P → upd (upd H P (.tbl (ps ++ #[rawInt pos.line, rawInt pos.col, .ref c']))) c' (LamX.CodeO c' q) a = some u := fun a u e z => by
      rw [upd_ne (ne_of_none e hc), upd_ne z]; exact e
    have w : StW U H U (upd (upd H P (.tbl (ps ++ #[rawInt pos.line, rawInt pos.col, .ref c']))) c' (LamX.CodeO c' q)) := fun a u e ka => ⟨keep a u e (fun z => by rw [z, kP] at ka; cases ka), ka⟩
    refine ⟨⟨o.ce, fun a c e => (o.cell a c e).st (fun u z => keep a u z (ntabR' (o.cellT e) hp)) w (fun _ z => z), fun a ha => ?_, fun r hr => ?_⟩, ⟨fun a u e ha => keep a u e (fun z => ha (by rw [z]; exact kP)), fun _ _ => rfl⟩, upd_same, w, o.sh hc⟩
    · by_cases z1 : a = c'
      · rw [z1, upd_same]; simp
      · rw [upd_ne z1]
        by_cases z2 : a = P
        · rw [z2, upd_same]; simp
        · rw [upd_ne z2]; exact o.there a ha
    · obtain ⟨rP, rq⟩ := r
      by_cases z : rP = P
      · subst z
        obtain rfl := uq rq hr
        obtain ⟨ps', g1, g2, g3⟩ := o.tab _ hr
        have e : ps' = ps := by
          have := g1.symm.trans hP
          cases this; rfl
        subst e
        refine ⟨_, by rw [upd_ne nPc, upd_same], ?_, fun p2 cv hcv => ?_⟩
        · rw [Array.toList_append]; exact PySem.TriplesOk_snoc _ _ _ _ g2
        · rw [Array.toList_append] at hcv
          rcases LamX.among_app _ g2 hcv with y | y
          · obtain ⟨d, y1, y2, y3⟩ := g3 p2 cv y
            exact ⟨d, y1, (w d _ y2 y3).1, y3⟩
          · exact ⟨c', y, upd_same, o.sh hc⟩
      · exact (o.tab _ hr).st (fun u e => keep _ u e z) w
end
end Sb
#print axioms Sb.Made.ok
set_option linter.all false
set_option maxRecDepth 100000
set_option maxHeartbeats 4000000
set_option autoImplicit false
/-! AN: sorted(xs, key=lambda row: (len(row), row)), the parts on rows. -/
namespace Sb
open PySem PySem.Spec PyProof.Rows L2 PySem.W
/-- a row's key -/
def rowK (b : V × List Int) : PyData := .tuple [.int b.2.length, .list (b.2.map .int)]
theorem rowK_sortable (bs : List (V × List Int)) : Sortable (bs.map rowK) := .tuples fun _ => ⟨_, _, rfl⟩
theorem alike_ints : ∀ a b : List Int, alikeAll (a.map PyData.int) (b.map .int) = true
  | [], [] => by simp [alikeAll]
  | [], _ :: _ => by simp [alikeAll]
  | _ :: _, [] => by simp [alikeAll]
  | x :: a, y :: b => by simp [alikeAll, alike, alike_ints a b]
theorem rowK_alike (bs : List (V × List Int)) : AllAlike (bs.map rowK) := by
  intro d hd d' hd'
  obtain ⟨x, _, rfl⟩ := List.mem_map.mp hd
  obtain ⟨y, _, rfl⟩ := List.mem_map.mp hd'
  simp [rowK, alike, alikeAll, alike_ints]
theorem depth_ints : ∀ a : List Int, PyData.depthAll (a.map .int) ≤ 1
  | [] => by simp [PyData.depthAll]
  | x :: a => by
    have := depth_ints a
    simp [PyData.depthAll, PyData.depth]; omega
theorem rowK_depth (b : V × List Int) : (rowK b).depth ≤ 5 := by
  have := depth_ints b.2
  simp [rowK, PyData.depth, PyData.depthAll]; omega
end Sb
namespace Sb
open PySem PySem.Spec PyProof.Rows L2 PySem.W
section
variable {X : Cx} {pins : List (Addr × Obj)} {σ : L2.St} {H : Hp} {s : Shared} {ct : CT} {U : Um}
theorem reads_ints {h : Heap} : ∀ {r : List Int} {us : List Value}, Vals (r.map V.int) us → ReadsAll h us (r.map .int) []
  | [], us, v => by rw [List.map_nil] at v; cases v; exact .nil
  | i :: r, us, v => by
    rw [List.map_cons] at v
    cases v with
    | cons h1 h2 =>
      obtain ⟨t, rfl⟩ := h1
      exact .cons (as := []) (.int i t) (reads_ints h2)
theorem dnl_ints {K : PySem.W.Frag} : ∀ {r : List Int} {xs : List V}, DnL K ct U H xs (r.map .int) → xs = r.map V.int
  | [], xs, h => by rw [List.map_nil] at h; cases h; rfl
  | i :: r, xs, h => by
    rw [List.map_cons] at h
    cases h with
    | cons h1 h2 => cases h1; rw [dnl_ints h2]; rfl
theorem row_reads {x : V} {v : Value} {r : List Int} (I : Inv X pins σ H s) (d : Dn X.K ct U H x (rowD r)) (rv : RelV x v) : ∃ l, v = .ref l ∧ Reads s.heap v (.list (r.map .int)) [l] ∧ s.heap.get? l ≠ none ∧ r.length ≤ sizeLine := by
  cases d with
  | @lst a xs ds k h l =>
    obtain rfl : v = .ref a := rv
    have e := dnl_ints l
    subst e
    obtain ⟨its, vs, ⟨o, n, g1, g2, g3, g4⟩, sz⟩ := I.list (xs := r.map V.int) (.inl (.inl h))
    exact ⟨a, rfl, .list g1 g2 g4 (by simpa using reads_ints vs), by rw [g1]; simp, by simpa using sz⟩
/-- a row, as the sort sees it -/
def RowR (K : PySem.W.Frag) (ct : CT) (U : Um) (H : Hp) (v : Value) (b : V × List Int) : Prop := RelV b.1 v ∧ Dn K ct U H b.1 (rowD b.2)
theorem rows_each {K : PySem.W.Frag} : ∀ {rows : List (List Int)} {xs : List V} {us : List Value}, DnL K ct U H xs (rows.map rowD) → Vals xs us → EachIs (RowR K ct U H) us (xs.zip rows) ∧ xs.length = rows.length
  | [], xs, us, d, v => by rw [List.map_nil] at d; cases d; cases v; exact ⟨.nil, rfl⟩
  | r :: rows, xs, us, d, v => by
    rw [List.map_cons] at d
    cases d with
    | cons d1 d2 =>
      cases v with
      | cons v1 v2 => exact ⟨.cons ⟨v1, d1⟩ (rows_each d2 v2).1, congrArg (· + 1) (rows_each d2 v2).2⟩
theorem rows_back {K : PySem.W.Frag} : ∀ {bs : List (V × List Int)} {us : List Value}, EachIs (RowR K ct U H) us bs → Vals (bs.map (·.1)) us ∧ DnL K ct U H (bs.map (·.1)) ((bs.map (·.2)).map rowD)
  | [], us, e => by cases e; exact ⟨.nil, .nil⟩
  | b :: bs, us, e => by
    cases e with
    | cons h t => exact ⟨.cons h.1 (rows_back t).1, .cons h.2 (rows_back t).2⟩
theorem rows_sort {xs : List V} {rows : List (List Int)} (h : xs.length = rows.length) : ((xs.zip rows).mergeSort (dataLe false rowK)).map (·.2) = rows.mergeSort rowLe := by
  have q := List.map_mergeSort (r := dataLe false rowK) (s := rowLe) (f := fun b : V × List Int => b.2) (l := xs.zip rows) (fun a _ b _ => rfl)
  rw [q, List.map_snd_zip (Nat.le_of_eq h.symm)]
end
end Sb
set_option linter.all false
set_option maxRecDepth 100000
set_option maxHeartbeats 4000000
set_option autoImplicit false
/-! AO: the rule of sorted(xs, key=lambda row: (len(row), row)). -/
namespace Sb
open PySem PySem.Spec PyProof.Rows L2
section
variable {X : Cx} {ct : CT} {W : WX} {m : Mo}
theorem x_srl {a : Expr} {row : Str} {c P : Addr} {k : Nat} {params : Arguments} {scope : Scope} {x1 : Nat} {p pos kp lpos p1 p2 p3 p4 p5 : Pos} {r : Env → Store → QD → QD → Prop} (TB : LamX.TabB X.base X.mg c P) (cod : X.env.code = .ref c)
    (tb : (P, X.env.qual ++ "<lambda>") ∈ ct.tb) (uq : ∀ z, (P, z) ∈ ct.tb → z = X.env.qual ++ "<lambda>") (df : defaultsOf params X.env = ([], [])) (fr : ∀ y ∈ scope.names, y.2 = .free → ∃ c, X.env.cells.lookup y.1 = some c)
    (kd : scope.kind = .function) (co : scope.isCoroutine = false) (ge : scope.isGenerator = false) (nc : ∀ x ∈ scope.names, x.2 ≠ .cell) (lo : scope.names.lookup row = some .local) (ll : scope.names.lookup ("len" : Str) = some .globalImplicit) (dr : (row == ("__debug__" : Str)) = false)
    (hb : ∀ (v : Value) (q : Str) (cl : List (Str × Addr)) (pm cv ctv : Value), bindArgs (PySem.W.kla_fn "<lambda>" q params (.Tuple [.Call (.Name "len" p1) [.Name row p2] [] p3, .Name row p4] x1 p5) scope cl pm cv ctv) ⟨[v], []⟩ = pure [(row, v)])
    (hg : Gl X "sorted") (hm : X.mg "sorted" = none) (hl : X.mg "len" = none) (rm : Room k X.A)
    (he : backTo pos (starEach [a] X.env) = (false, eval a X.env) :: backTo pos (starEach [] X.env)) (na : starEach [a] X.env = (false, eval a X.env) :: starEach [] X.env) (hp : (backTo pos (starEach [a] X.env)).any (·.1) = false) (ha : PE X a (TE_ X.K ct W .bn r)) :
    PE X (.Call (.Name "sorted" p) [a] [⟨some "key", .Lambda params (.Tuple [.Call (.Name "len" p1) [.Name row p2] [] p3, .Name row p4] x1 p5) scope lpos, kp⟩] pos) (TE_ X.K ct W m fun ρ S Q E => r ρ S (fun d S => srD d fun d => Q d S) E) := by
  refine ⟨fun pins s σ H Qv I h => ?_⟩
  obtain ⟨U, S, ρ, Q, E, ok, sl, r0, po, px⟩ := h
  refine wpAny_Call_Name_kw (ld_blt I hg hm rfl (callWith_kw ?_ he hp rfl rfl))
  refine one_arg (R := fun x H2 => ∃ U1 S1 d, Stp U H U1 H2 ∧ Ok X.K ct U1 S1 H2 ∧ Bn X.K ct U1 H2 x d ∧ srD d fun d => Q d S1) ha I ⟨U, S, ρ, _, E, ok, sl, r0, fun v d U1 S1 H1 st o md q => ⟨U1, S1, d, st, o, md, q⟩, px⟩ (fun v s2 x H2 I2 rv q0 => ?_) na
  obtain ⟨U1, S1, d, st1, o1, bn, rows, rfl, q⟩ := q0
  refine kws_cons (lam_make I2 TB cod rfl (o1.tab _ tb) df fr fun f c' pm ctv H3 s3 I3 md hf hfn _ => kws_nil ?_)
  obtain ⟨o3, st3, hc3, w3, _⟩ := md.ok o1 tb uq
  obtain ⟨l, xs, rfl, hl3, dn3⟩ : ∃ l xs, x = .ref l ∧ H3 l = some (.lst xs) ∧ DnL X.K ct U1 H3 xs (rows.map rowD) := by
    cases bn with
    | of h => cases h with
      | lst kk hh ld => exact ⟨_, _, rfl, st3.st _ _ hh (by rw [kk]; decide), ld.stp o1 st3⟩
    | lst kk hh ld => exact ⟨_, _, rfl, st3.st _ _ hh (by rw [kk]; decide), ld.stp o1 st3⟩
  obtain rfl : v = .ref l := rv
  obtain ⟨its, vs, ⟨o, n, g1, g2, g3, g4⟩, sz⟩ := I3.list (xs := xs) (.inl (.inl hl3))
  obtain ⟨each, len⟩ := rows_each dn3 vs
  obtain ⟨mb, b1, b2⟩ := I3.mod.blt
  obtain ⟨⟨oc, us, t, e1, e2, e3⟩, _, _⟩ := I3.hok c' _ hc3
  have fresh : H3 (s3.heap.objs.size + 1) = none := I3.hok.fresh (Nat.le_succ _)
  show wpAny _ _ (call (.builtin "sorted") [.ref l] [(Str.ofString "key", .ref f)]) _ _ _
  refine key_sorted (k := rowK) (R := RowR X.K ct U1 H3) (bs := xs.zip rows) ⟨o, g1, g2, n, g4⟩ each (rowK_alike _) (rowK_sortable _) (by rw [List.length_zip]; omega) (fun b _ => ?_) rfl (fun _ => rfl) (fun v b hR _ h n' up => ?_) (fun out cc h' n' up nn hh ee => ?_)
  · have q1 := rowK_depth b
    have q2 := rm.un
    omega
  · obtain ⟨l', rfl, rd, nl, zl⟩ := row_reads I3 hR.2 hR.1
    have := lam_lenrow (pg := X.prog) (w := X.w) (A := X.A.in1.in1) (s := { s3 with heap := h, toks := n' }) (g := s3.heap) (mg := X.mg) (mb := mb) (ds := b.2.map .int) (as := [l']) (row := row) (by have := rm.dp; show X.A.depth < _; omega) (up _ _ hf) ⟨oc, us, t, up _ _ e1, e2, e3⟩ kd co ge nc lo ll (I3.nolimit.keeps up) (hb _ _ _ _ _ _)
      ((I3.mod.glob.keeps I3.bk).keeps up) ((b1.keeps I3.bk).keeps up) hl (b2 _ (by decide)) dr (PyProof.Rows.Reads.keeps up rd) (by simpa using zl) (by intro c hc; rw [List.mem_singleton] at hc; rw [hc]; exact nl)
    simpa [rowK] using this
  · obtain ⟨v1, d1⟩ := rows_back ee
    rw [rows_sort len] at d1
    refine ⟨.ref (s3.heap.objs.size + 1), upd H3 (s3.heap.objs.size + 1) (.lst (((xs.zip rows).mergeSort (PySem.W.dataLe false rowK)).map (·.1))), I3.laid up (Nat.le_succ _) ⟨?_, out, cc, v1, hh⟩, rfl, ?_⟩
    · rw [List.length_map, List.length_mergeSort, List.length_zip]; omega
    · exact ((po.stp st1 o1).stp st3 o3).fin o3 _ _ _ _ (Kp.new fresh) (o3.new fresh) (Fr_.new o3 fresh fresh d1) q
end
end Sb
#print axioms Sb.x_srl
set_option linter.all false
set_option maxRecDepth 100000
set_option maxHeartbeats 4000000
set_option autoImplicit false
/-! AQ: plain sorted(xs), of any data that are alike. -/
namespace Sb
open PySem PySem.Spec PyProof.Rows L2 PySem.W
section
variable {X : Cx} {pins : List (Addr × Obj)} {σ : L2.St} {H : Hp} {s : Shared} {ct : CT} {U : Um}
mutual
theorem dn_reads (I : Inv X pins σ H s) : ∀ (d : D) {x : V} {v : Value}, plnD d = true → Dn X.K ct U H x d → RelV x v → ∃ as, Reads s.heap v (encD d) as
  | .none, x, v, _, h, r => by cases h; obtain rfl : v = .none := r; exact ⟨_, .none⟩
  | .bool b, x, v, _, h, r => by cases h; obtain rfl : v = .bool b := r; exact ⟨_, .bool b⟩
  | .int i, x, v, _, h, r => by cases h; obtain ⟨t, rfl⟩ := r; exact ⟨_, .int i t⟩
  | .str z, x, v, _, h, r => by cases h; obtain ⟨t, rfl⟩ := r; exact ⟨_, .str z t⟩
  | .lst ds, x, v, p, h, r => by
    cases h with
    | @lst a xs _ k h l =>
      obtain rfl : v = .ref a := r
      obtain ⟨its, vs, ⟨o, n, g1, g2, g3, g4⟩, sz⟩ := I.list (xs := xs) (.inl (.inl h))
      obtain ⟨as, q⟩ := dnl_reads I ds (by simpa [plnD] using p) l vs
      exact ⟨_, .list g1 g2 g4 (by simpa using q)⟩
  | .tup ds, x, v, p, h, r => by
    cases h with
    | @tup a ob xs _ k h pt l =>
      obtain rfl : v = .ref a := r
      obtain ⟨its, vs, tt, sz⟩ := I.tuple (xs := xs) (.inl (.inr ⟨ob, h⟩))
      obtain ⟨o, g1, g2, n, g4⟩ := tt
      obtain ⟨as, q⟩ := dnl_reads I ds (by simpa [plnD] using p) l vs
      exact ⟨_, .tuple g1 g2 g4 (by simpa using q)⟩
  | .scr _, _, _, p, _, _ => by simp [plnD] at p
  | .obj _ _, _, _, p, _, _ => by simp [plnD] at p
  | .cls _, _, _, p, _, _ => by simp [plnD] at p
  | .ptr _, _, _, p, _, _ => by simp [plnD] at p
  | .own _, _, _, p, _, _ => by simp [plnD] at p
  | .bor _, _, _, p, _, _ => by simp [plnD] at p
  | .sd _, _, _, p, _, _ => by simp [plnD] at p
theorem dnl_reads (I : Inv X pins σ H s) : ∀ (ds : List D) {xs : List V} {us : List Value}, plnL ds = true → DnL X.K ct U H xs ds → Vals xs us → ∃ as, ReadsAll s.heap us (encL ds) as
  | [], xs, us, _, h, r => by cases h; cases r; exact ⟨_, .nil⟩
  | d :: ds, xs, us, p, h, r => by
    simp only [plnL, Bool.and_eq_true] at p
    cases h with
    | cons h1 h2 =>
      cases r with
      | cons r1 r2 =>
        obtain ⟨as, q1⟩ := dn_reads I d p.1 h1 r1
        obtain ⟨bs, q2⟩ := dnl_reads I ds p.2 h2 r2
        exact ⟨_, .cons q1 q2⟩
end
end
end Sb
set_option linter.all false
set_option maxRecDepth 100000
set_option maxHeartbeats 4000000
set_option autoImplicit false
/-! AR: the rule of plain sorted(xs). -/
namespace Sb
open PySem PySem.Spec PyProof.Rows L2
section
variable {X : Cx} {pins : List (Addr × Obj)} {σ : L2.St} {H : Hp} {s : Shared} {ct : CT} {U : Um}
def PairR (K : PySem.W.Frag) (ct : CT) (U : Um) (H : Hp) (v : Value) (b : V × D) : Prop := RelV b.1 v ∧ Dn K ct U H b.1 b.2
theorem pair_each {K : PySem.W.Frag} : ∀ {ds : List D} {xs : List V} {us : List Value}, DnL K ct U H xs ds → Vals xs us → PySem.W.EachIs (PairR K ct U H) us (xs.zip ds) ∧ xs.length = ds.length
  | [], xs, us, d, v => by cases d; cases v; exact ⟨.nil, rfl⟩
  | e :: ds, xs, us, d, v => by
    cases d with
    | cons d1 d2 =>
      cases v with
      | cons v1 v2 => exact ⟨.cons ⟨v1, d1⟩ (pair_each d2 v2).1, congrArg (· + 1) (pair_each d2 v2).2⟩
theorem pair_back {K : PySem.W.Frag} : ∀ {bs : List (V × D)} {us : List Value}, PySem.W.EachIs (PairR K ct U H) us bs → Vals (bs.map (·.1)) us ∧ DnL K ct U H (bs.map (·.1)) (bs.map (·.2))
  | [], us, e => by cases e; exact ⟨.nil, .nil⟩
  | b :: bs, us, e => by
    cases e with
    | cons h t => exact ⟨.cons h.1 (pair_back t).1, .cons h.2 (pair_back t).2⟩
theorem plnL_mem : ∀ {ds : List D}, plnL ds = true → ∀ d ∈ ds, plnD d = true
  | [], _, d, h => nomatch h
  | e :: ds, p, d, h => by
    simp only [plnL, Bool.and_eq_true] at p
    rcases List.mem_cons.mp h with rfl | h
    · exact p.1
    · exact plnL_mem p.2 d h
theorem pair_reads (I : Inv X pins σ H s) : ∀ {bs : List (V × D)} {us : List Value}, (∀ b ∈ bs, plnD b.2 = true) → PySem.W.EachIs (PairR X.K ct U H) us bs → PySem.W.EachIs (fun v b => ∃ as, Reads s.heap v (encD b.2) as) us bs
  | [], us, _, e => by cases e; exact .nil
  | b :: bs, us, p, e => by
    cases e with
    | cons h t => exact .cons (dn_reads I b.2 (p b (.head _)) h.2 h.1) (pair_reads I (fun c hc => p c (.tail _ hc)) t)
def rSrt (K : PySem.W.Frag) (ct : CT) : List V → Hp → VK → Prop := fun vs H Qv => ∃ U S x d Q, vs = [x] ∧ Ok K ct U S H ∧ Bn K ct U H x d ∧ srtD d Q ∧ PoF K ct U S H Q Qv
theorem call_srt (un : X.A.units + 65 < cLine) : CallR X (.builtin "sorted") (rSrt X.K ct) := by
  intro pins s σ H vs us Qv I r h
  obtain ⟨U, S, x, d, Q, rfl, ok, bn, ⟨ds, rfl, pl, al, so, dp, q⟩, po⟩ := h
  obtain ⟨l, xs, rfl, hl, dn⟩ : ∃ l xs, x = .ref l ∧ H l = some (.lst xs) ∧ DnL X.K ct U H xs ds := by
    cases bn with
    | of h => cases h with
      | lst _ hh ld => exact ⟨_, _, rfl, hh, ld⟩
    | lst _ hh ld => exact ⟨_, _, rfl, hh, ld⟩
  obtain rfl := Vals.ref1 r
  obtain ⟨its, vs, ⟨o, n, g1, g2, g3, g4⟩, sz⟩ := I.list (xs := xs) (.inl (.inl hl))
  obtain ⟨each, len⟩ := pair_each dn vs
  have e2 : (xs.zip ds).map (fun b : V × D => encD b.2) = ds.map encD := by
    rw [show (fun b : V × D => encD b.2) = encD ∘ (·.2) from rfl, ← List.map_map, List.map_snd_zip (Nat.le_of_eq len.symm)]
  have fresh : H (s.heap.objs.size + 1) = none := I.hok.fresh (Nat.le_succ _)
  have inD : ∀ b, b ∈ xs.zip ds → b.2 ∈ ds := fun b hb => (List.of_mem_zip hb).2
  refine PySem.W.sorted_data (enc := fun b : V × D => encD b.2) (R := PairR X.K ct U H) (bs := xs.zip ds) ⟨o, g1, g2, n, g4⟩ each (pair_reads I (fun b hb => plnL_mem pl _ (inD b hb)) each) (by rw [e2]; exact al) (by rw [e2]; exact so) (by rw [List.length_zip]; omega) (fun b hb => ?_) (fun out ol ee => ?_)
  · have := dp _ (inD b hb)
    omega
  · obtain ⟨v1, d1⟩ := pair_back ee
    have e3 : ((xs.zip ds).mergeSort (PySem.W.dataLe false fun b : V × D => encD b.2)).map (·.2) = ds.mergeSort (PySem.W.dataLe false encD) := by
      have z := List.map_mergeSort (r := PySem.W.dataLe false fun b : V × D => encD b.2) (s := PySem.W.dataLe false encD) (f := fun b : V × D => b.2) (l := xs.zip ds) (fun a _ b _ => rfl)
      rw [z, List.map_snd_zip (Nat.le_of_eq len.symm)]
    rw [e3] at d1
    obtain ⟨ep, he⟩ := PyProof.Rows.sortedAll_at s.heap its (List.toArray out)
    refine ⟨.ref _, upd H (s.heap.objs.size + 1) (.lst _), I.laid (t' := s.toks) (fun _ _ => PyProof.Rows.sortedAll_old) (Nat.le_succ _) ⟨?_, out, ep, v1, he⟩, rfl, po _ _ _ _ (Kp.new fresh) (ok.new fresh) (Fr_.new ok fresh fresh d1) q⟩
    rw [List.length_map, List.length_mergeSort, List.length_zip]; omega
theorem cb_sorted (un : X.A.units + 65 < cLine) : CallR X (.builtin "sorted") (rBi X.K ct .sorted) := by
  intro pins s σ H vs us Qv I r h
  obtain ⟨U, S, ds, Q, ok, bl, q, po⟩ := h
  cases bl with
  | nil => exact q.elim
  | cons b1 b2 =>
    cases b2 with
    | nil => exact call_srt un pins s σ H _ us Qv I r ⟨U, S, _, _, Q, rfl, ok, b1, q, po⟩
    | cons _ _ => exact q.elim
end
end Sb
#print axioms Sb.call_srt
set_option linter.all false
set_option maxRecDepth 100000
set_option maxHeartbeats 4000000
set_option autoImplicit false
/-! AX: own exceptions of one field, over any of three built-in classes: made, raised. -/
namespace Sb
open PySem PySem.Spec PySem.Calls PyProof.Rows PySem.W
open Builtin Builtin.ObjectAttr
def stdArgs (ps : List Str) : Arguments := ⟨[], ps.map fun n => ⟨n, none, ⟨0, 0, 0, 0⟩⟩, none, [], [], none, []⟩
structure Par (fd : FuncData) (ps : List Str) : Prop where
  po : fd.params.posonlyargs = []
  ar : fd.params.args.map (·.arg) = ps
  va : fd.params.vararg = none
  ko : fd.params.kwonlyargs = []
  kw : fd.params.kwarg = none
theorem bindArgs_std {fd : FuncData} {ps : List Str} {args : Args} (h : Par fd ps) : bindArgs fd args = bindArgs { fd with params := stdArgs ps } args := by
  obtain ⟨h1, h2, h3, h4, h5⟩ := h
  have e : (stdArgs ps).args.map (·.arg) = ps := by simp [stdArgs, Function.comp_def]
  unfold bindArgs
  simp only [h1, h2, h3, h4, h5, e]
  rfl
def parB (fd : FuncData) (ps : List Str) : Bool := fd.params.posonlyargs.isEmpty && (decide (fd.params.args.map (·.arg) = ps) && (fd.params.vararg.isNone && (fd.params.kwonlyargs.isEmpty && fd.params.kwarg.isNone)))
theorem parB_ok {fd : FuncData} {ps : List Str} (h : parB fd ps = true) : Par fd ps := by
  simp only [parB, Bool.and_eq_true, decide_eq_true_eq, List.isEmpty_iff, Option.isNone_iff_eq_none] at h
  exact ⟨h.1, h.2.1, h.2.2.1, h.2.2.2.1, h.2.2.2.2⟩
/-- the field: given, or index -/
def fdN (b : Bool) : Str := if b = true then "given" else "index"
def iniS (b : Bool) : Scope := { kind := .function, names := [("self", .local), (fdN b, .local)], isGenerator := false, isCoroutine := false, more := [] }
/-- a built-in class under which own ones stand -/
structure BaseE (bmB : List Value) (newId : String) : Prop where
  ps : ∀ self : Value, refuseLoop self "__setattr__" bmB = pure ()
  ob : bmB.contains (.type "object") = true
  bf : ∃ B initId, ExcBaseFacts B newId initId bmB
theorem base_VE : BaseE [.type "ValueError", .type "Exception", .type "BaseException", .type "object"] "ValueError.__new__" := ⟨fun s => F.store_ValueError.passes s, by decide +kernel, _, _, F.excBase_ValueError⟩
theorem base_LE : BaseE [.type "LookupError", .type "Exception", .type "BaseException", .type "object"] "LookupError.__new__" := ⟨fun s => F.store_LookupError.passes s, by decide +kernel, _, _, F.excBase_LookupError⟩
theorem base_AE : BaseE [.type "ArithmeticError", .type "Exception", .type "BaseException", .type "object"] "ArithmeticError.__new__" := ⟨fun s => F.store_ArithmeticError.passes s, by decide +kernel, _, _, F.excBase_ArithmeticError⟩
/-- __init__ of such a class -/
structure IniO (K : Frag) (fI : Addr) (b : Bool) : Prop where
  ex : ∃ (oc : Value) (od : Option Addr) (osl : Array (Option Value)) (name qual : Str) (params : Arguments) (q1 q2 q3 q4 : Pos) (doc pm cdv cv : Value) (an : Option Addr),
    K.lookup fI = some ⟨oc, od, .func (fnOf name qual params [.Assign [.Attribute (.Name "self" q1) (fdN b) q2] (.Name (fdN b) q3) q4] (iniS b) .none .none doc pm an cdv cv), osl⟩ ∧ codeIn K cdv qual = true ∧
    params.posonlyargs = [] ∧ params.args.map (·.arg) = (["self", fdN b] : List Str) ∧ params.vararg = none ∧ params.kwonlyargs = [] ∧ params.kwarg = none
/-- what the written part says of the class -/
structure ExT (K : Frag) (C fI : Addr) (b : Bool) : Prop where
  cls : ∃ bmB newId nm q N bs bm sn sub ab col dd k0 k1 k2 k3 k5, BaseE bmB newId ∧ K.lookup C = some (excClassObj nm q C N bs bm true sn sub ab col dd k0 k1 k2 k3 k5 newId) ∧ excTail bmB bm = true
  sa : findIn K (.ref C) "__setattr__" = some (some (.builtin "object.__setattr__"))
  noN : findIn K (.ref C) (fdN b) = some none
  iC : findIn K (.ref C) "__init__" = some (some (.ref fI))
  tI : typeIn K (.ref fI) = some (.type "function")
  kC : keepIn K (.ref C) = true
  exC : subIn K (.ref C) (.type "BaseException") = some true
  tyC : typeIn K (.ref C) = some (.type "type")
  hdC : hasDictIn K C = true
  ga : findIn K (.ref C) "__getattribute__" = some (some (.builtin "BaseException.__getattribute__"))
  gg : findIn K (.ref C) "__getattr__" = some none
  ini : IniO K fI b
section
variable {prog : Program} {w : World} {A : Around} {E : Value → Shared → Prop} {R : Result → Shared → Prop} {hp : Heap} {g : Array GenState} {d : Drawn} {t : Nat} {os : OsState}
theorem exc_osaT {K : Frag} {name : Str} {tk : Tok} {v : Value} {x C : Addr} {fv : Array Value} {cd : ClassData} {bmB : List Value} {newId : String} (B : BaseE bmB newId)
    (X : K.In hp) (hx : hp.get? x = some { cls := .ref C, data := .fields fv }) (hcd : PySem.W.clsIn K C = some cd) (hm : excTail bmB cd.mro = true) (ne : cd.mro.isEmpty = false) (hh : cd.hasDict = true) (ha : findIn K (.ref C) name = some none)
    (hq : ∀ h' tk' dx, (∀ b o, b ≠ x → hp.get? b = some o → h'.get? b = some o) → hp.objs.size ≤ dx → dx ≠ x → h'.get? x = some { cls := .ref C, dict := some dx, data := .fields fv } →
      h'.Ns1 dx (fun y => if y = name then some v else none) → R (.ok (.ret .none)) ⟨h', g, d, tk', os⟩) :
    codeAny (model prog w) A (.call (.builtin "object.__setattr__") ⟨[.ref x, .str name tk, v], []⟩) R ⟨hp, g, d, t, os⟩ := by
  have I : InstAt hp x { cls := .ref C, data := .fields fv } C none := ⟨hx, rfl, rfl, trivial⟩
  have SF := F.store_object
  have hob : cd.mro.contains (.type "object") = true := (excTail_contains "object" _ hm).trans B.ob
  have hxs : x ≠ hp.objs.size := Nat.ne_of_lt (Heap.lt_size hx)
  have sub : Looks (model prog w) hp (isInstance (.ref x) (.type "object")) true := I.type.andThen (looks_mroIn X (by unfold mroIn; rw [hcd, Option.bind_some, if_neg (by rw [ne]; decide), hob]))
  refine codeAny_call_builtin SF.slot.plain SF.entry (@check_slot (model prog w) _ _ ⟨hp, g, d, t, os⟩ "object.__setattr__" "object" "__setattr__" (.ref x) [.str name tk, v] [] _ SF.kind SF.split sub (SF.args (.ref x) (.str name tk) v) ?_)
  have hmr : Looks (model prog w) hp (mroOf (.ref C)) cd.mro := (looks_clsIn X hcd).andThen .now
  have L3 : Looks (model prog w) hp (storeTaker? none) none := .now
  have hcls : Looks (model prog w) hp (classData C) cd := looks_clsIn X hcd
  rw [osa_eq, refuse_eq]
  refine wpAny_bind (wpAny_bind (I.type.at (wpAny_bind (hmr.at ?_))))
  rw [excTail_pass _ (B.ps _) _ hm]
  refine wpAny_pure (wpAny_bind (I.type.at (wpAny_bind ((looks_findIn X ha).at (wpAny_bind (L3.at ?_))))))
  show wpAny _ _ (storeInOwnDict (.ref x) (.ref C) (.str name tk) name v false) _ _ _
  obtain ⟨nm, bs, mro, ns, qn, hd, sn, sb, ab, col, del⟩ := cd
  dsimp only at hh
  subst hh
  unfold storeInOwnDict ownDictForStores
  repeat (first | with_reducible refine HandSPX.store_in_new ?_ ?_ | with_reducible refine wpAny_loadPart_at hx ?_ | with_reducible refine hcls.at ?_ | wp_step)
  · exact ⟨_, #[], _, (Heap.get?_update_ne _ _ _ _ hxs.symm).trans (Heap.get?_push_at rfl rfl), rfl, fun e he => absurd he (by simp), fun _ => rfl⟩
  · intro h' tk' hn' hs
    have hx₁ : (hp.push { cls := .type "dict", data := .dict #[] }).get? x = some { cls := .ref C, data := .fields fv } := Heap.get?_push_of_some _ hx
    refine hq h' tk' hp.objs.size (fun b o hb ho => ?_) (Nat.le_refl _) hxs.symm ?_ hn'
    · exact (hs.2 b (Nat.ne_of_lt (Heap.lt_size ho))).trans ((Heap.get?_update_ne _ _ _ _ hb).trans (Heap.get?_push_of_some _ ho))
    · exact (hs.2 x hxs).trans (Heap.get?_update_self _ hx₁ rfl)
end
end Sb
namespace Sb
open PySem PySem.Spec PySem.Calls PyProof.Rows PySem.W
open Builtin Builtin.ObjectAttr
/-- what __init__ leaves of a fresh exception at x -/
structure InitEnd (h h' : Heap) (x C dx t1 : Addr) (n : Str) (v : Value) : Prop where
  keep : ∀ b o, b ≠ x → h.get? b = some o → h'.get? b = some o
  obj : h'.get? x = some { cls := .ref C, dict := some dx, data := .fields #[.ref t1, .none, .none, .none, .bool false, .none] }
  dbig : h.objs.size ≤ dx
  dne : dx ≠ x
  ns : h'.Ns1 dx (fun y => if y = n then some v else none)
/-- a made one -/
structure OwnMade (h h' : Heap) (e C d : Addr) (n : Str) (v : Value) : Prop where
  keep : ∀ b o, h.get? b = some o → h'.get? b = some o
  new : h.objs.size ≤ e
  obj : ∃ oe vs, h'.get? e = some oe ∧ oe.cls = .ref C ∧ oe.dict = some d ∧ oe.data = .fields vs ∧ vs[1]? = some .none
  dbig : h.objs.size ≤ d
  dne : d ≠ e
  ns : h'.Ns1 d (fun y => if y = n then some v else none)
theorem ldC {M : Model} {s : Shared} {name : Str} {scope : Scope} {L a : Addr} {cd : Value} {m : Str → Option Value} {x : Str} {pos : Pos} {v : Value} {Q : Value → Shared → Prop} {A : Around} {E : Value → Shared → Prop} (hn : s.heap.Ns L m) (hv : m x = some v) (h : Q v s)
    (hk : scope.kind = .function) (hl : (envOfC name scope L a cd).kindOf x = some .local) (hd : (x == ("__debug__" : Str)) = false) :
    wpAny M A (eval (.Name x pos) (envOfC name scope L a cd)) Q E s := wpAny_Name (wpAny_loadName_local hk hl hn hv h) hd
section
variable {prog : Program} {w : World} {A : Around} {E : Value → Shared → Prop} {R : Result → Shared → Prop} {s : Shared} {K : Frag} {C fI : Addr} {b : Bool}
theorem low_init (T : ExT K C fI b) {x t0 : Addr} {v : Value} (X : K.In s.heap) (hlim : s.heap.NoLimit) (hx : s.heap.get? x = some (HandSPX.excO C t0)) (hroom : A.depth < recursionLimit)
    (hq : ∀ h' tk dx, InitEnd s.heap h' x C dx t0 (fdN b) v → R (.ok (.ret .none)) { s with heap := h', toks := tk }) :
    codeAny (model prog w) A (.call (.ref fI) ⟨[.ref x, v], []⟩) R s := by
  obtain ⟨oc, od, osl, name, qual, params, q1, q2, q3, q4, doc, pm, cdv, cv, an, ho, hcd, p1, p2, p3, p4, p5⟩ := T.ini.ex
  obtain ⟨bmB, newId, nm, q, N, bs, bm, sn, sub, ab, col, dd, k0, k1, k2, k3, k5, B, hC, hbm⟩ := T.cls
  have hcl : PySem.W.clsIn K C = some { name := nm, bases := bs, mro := .ref C :: bm, ns := N, qualname := q, hasDict := true, slotNames := sn, subclasses := sub, abstract := ab, collection := col, hasDel := false } := by unfold PySem.W.clsIn; rw [hC] <;> rfl
  have bind : BindsTo s (fnOf name qual params [.Assign [.Attribute (.Name "self" q1) (fdN b) q2] (.Name (fdN b) q3) q4] (iniS b) .none .none doc pm an cdv cv) ⟨[.ref x, v], []⟩ [("self", .ref x), (fdN b, v)] := by
    refine BindsTo.of_eq ?_
    rw [bindArgs_std (ps := ["self", fdN b]) ⟨p1, p2, p3, p4, p5⟩]
    cases b <;> rfl
  have noN := T.noN
  cases b with
  | true =>
    refine Att.call_fn (binds := [("self", .ref x), ("given", v)]) X hlim ho hcd hroom bind rfl (fun s₁ IC => ?_) rfl rfl rfl
    obtain ⟨h₁, tk₁, rfl⟩ := IC.toInCall.same
    have k : ∀ b o, s.heap.get? b = some o → h₁.get? b = some o := IC.toInCall.keep
    have hn := IC.toInCall.ns
    have hxL : s.heap.objs.size ≠ x := Nat.ne_of_gt (Heap.lt_size hx)
    have X₁ : K.In h₁ := X.keeps k
    have hx₁ := k _ _ hx
    show wpAny _ _ (execs _ _) _ _ _
    refine wpAny_execs_cons (plainObj_wpAny_Assign_Attribute ?_)
    refine ldC (v := v) hn (by first | rfl | with_unfolding_all rfl | kernel_rfl) (ldC (v := .ref x) hn (by first | rfl | with_unfolding_all rfl | kernel_rfl) ?_ rfl rfl rfl) rfl rfl rfl
    refine set_plain X₁ (ox := HandSPX.excO C t0) (od := none) ⟨hx₁, rfl, rfl, trivial⟩ T.sa ?_
    refine exc_osaT B X₁ hx₁ hcl (show excTail bmB (.ref C :: bm) = true from hbm) rfl rfl noN (fun h₃ tk₃ dx k₃ dn dne hx₃ hn₃ => ?_)
    show wpAny _ _ (execs _ _) _ _ _
    have z : s.heap.objs.size < h₁.objs.size := hn.lt
    exact wpAny_execs_nil (hq h₃ tk₃ dx ⟨fun b o hb e => k₃ b o hb (k b o e), hx₃, Nat.le_of_lt (Nat.lt_of_lt_of_le z dn), dne, hn₃⟩)
  | false =>
    refine Att.call_fn (binds := [("self", .ref x), ("index", v)]) X hlim ho hcd hroom bind rfl (fun s₁ IC => ?_) rfl rfl rfl
    obtain ⟨h₁, tk₁, rfl⟩ := IC.toInCall.same
    have k : ∀ b o, s.heap.get? b = some o → h₁.get? b = some o := IC.toInCall.keep
    have hn := IC.toInCall.ns
    have hxL : s.heap.objs.size ≠ x := Nat.ne_of_gt (Heap.lt_size hx)
    have X₁ : K.In h₁ := X.keeps k
    have hx₁ := k _ _ hx
    show wpAny _ _ (execs _ _) _ _ _
    refine wpAny_execs_cons (plainObj_wpAny_Assign_Attribute ?_)
    refine ldC (v := v) hn (by first | rfl | with_unfolding_all rfl | kernel_rfl) (ldC (v := .ref x) hn (by first | rfl | with_unfolding_all rfl | kernel_rfl) ?_ rfl rfl rfl) rfl rfl rfl
    refine set_plain X₁ (ox := HandSPX.excO C t0) (od := none) ⟨hx₁, rfl, rfl, trivial⟩ T.sa ?_
    refine exc_osaT B X₁ hx₁ hcl (show excTail bmB (.ref C :: bm) = true from hbm) rfl rfl noN (fun h₃ tk₃ dx k₃ dn dne hx₃ hn₃ => ?_)
    show wpAny _ _ (execs _ _) _ _ _
    have z : s.heap.objs.size < h₁.objs.size := hn.lt
    exact wpAny_execs_nil (hq h₃ tk₃ dx ⟨fun b o hb e => k₃ b o hb (k b o e), hx₃, Nat.le_of_lt (Nat.lt_of_lt_of_le z dn), dne, hn₃⟩)
theorem one_size (v : Value) : [v].length ≤ sizeLine := by
  rw [sizeLine_eq]
  exact (by decide : 1 ≤ 16777216)
theorem low_made (T : ExT K C fI b) {v : Value} (X : K.In s.heap) (hlim : s.heap.NoLimit) (hroom : A.depth + 1 < recursionLimit)
    (hq : ∀ h' tk e d, OwnMade s.heap h' e C d (fdN b) v → R (.ok (.ret (.ref e))) { s with heap := h', toks := tk }) :
    codeAny (model prog w) A (.call (.ref C) ⟨[v], []⟩) R s := by
  obtain ⟨bmB, newId, nm, q, N, bs, bm, sn, sub, ab, col, dd, k0, k1, k2, k3, k5, B, hC, hbm⟩ := T.cls
  obtain ⟨Bn, initId, BF⟩ := B.bf
  obtain ⟨hp, g, dr, tk, os⟩ := s
  have k : ∀ b o, hp.get? b = some o → ((hp.push (kdv_tup [v])).push (HandSPX.excO C hp.objs.size)).get? b = some o := fun b o e => Heap.get?_push_of_some _ (Heap.get?_push_of_some _ e)
  have hget : ((hp.push (kdv_tup [v])).push (HandSPX.excO C hp.objs.size)).get? (hp.objs.size + 1) = some (HandSPX.excO C hp.objs.size) := by heap_get
  refine HandSPX.call_own BF (fun X => excTail_contains X bm hbm) (X _ _ hC) (looks_findIn X T.iC) (fun self => bind_fn X self T.tI) (one_size v) ?_
  refine low_init (s := ⟨(hp.push (kdv_tup [v])).push (HandSPX.excO C hp.objs.size), g, dr, tk, os⟩) T (X.keeps k) (hlim.keeps k) hget ?_ fun h' tk' dx ⟨k', hx, dn, dne, hns⟩ => ?_
  · show A.depth + 1 < recursionLimit
    exact hroom
  · have old : ∀ b o, hp.get? b = some o → h'.get? b = some o := fun b o e => k' b o (Nat.ne_of_lt (Nat.lt_succ_of_lt (Heap.lt_size e))) (k b o e)
    have z : hp.objs.size + 1 + 1 ≤ dx := by
      first
        | (simpa only [Heap.size_push] using dn)
        | exact dn
        | (have q := dn; rw [Heap.size_push, Heap.size_push] at q; exact q)
    exact ⟨rfl, hq h' tk' (hp.objs.size + 1) dx ⟨old, Nat.le_succ _, ⟨_, _, hx, rfl, rfl, rfl, rfl⟩, Nat.le_trans (Nat.le_trans (Nat.le_succ _) (Nat.le_succ _)) z, dne, hns⟩⟩
end
end Sb
namespace L2
open PySem PySem.Spec PyProof.Rows
theorem relO_one {v : V} {v' : Value} (n : Str) (r : RelV v v') (f : Str) : RelO (List.lookup f [(n, v)]) (if f = n then some v' else none) := by
  by_cases hw : f = n
  · subst hw
    rw [if_pos rfl]
    have q : List.lookup f [(f, v)] = some v := by simp [List.lookup]
    rw [q]
    exact r
  · rw [if_neg hw]
    have qw : (f == n) = false := by simpa using hw
    have q2 : List.lookup f [(n, v)] = none := by simp [List.lookup, qw]
    rw [q2]
    trivial
end L2
namespace Sb
open PySem PySem.Spec PyProof.Rows L2
section
variable {X : Cx} {C fI : Addr} {b : Bool} {ct : CT} {W : WX} {P : Prog} {F : Fsem} {Γ : List Clo} {fresh : Bool} {U0 : Um} {H0 : Hp}
/-- C(e) -/
def tMkX (C : Addr) (n : Str) (ta : TA) : L2.St → Hp → XK → Prop := fun σ H Q => ta σ H fun vs H1 => ∃ v, vs = [v] ∧ ∀ d, H1 d = none → Q (.ref C) (some d) (upd H1 d (.xd [(n, v)]))
theorem pmk_x {a : Expr} {x : Str} {ta : TA} {p pos : Pos} {k : Nat} (T : ExT X.K C fI b) (hr : Room k X.A) (gC : X.mg x = some (.ref C)) (hg : Gl X x) (hdb : (x == ("__debug__" : Str)) = false) (ha : PA X [a] ta)
    (he : starEach (a :: []) X.env = (false, eval a X.env) :: starEach [] X.env) : PMk X (.Call (.Name x p) [a] [] pos) (tMkX C (fdN b) ta) := by
  intro pins s σ H Q I h
  refine wpAny_Call_Name_kw (ld_glob I hg gC ?_ hdb)
  refine PySem.W.callWith_K (h₀ := X.base) I.ok.mod.kin T.kC (thn (ha.run pos pins s σ H _ I h) fun us s1 hh => ?_) he (by rfl)
  obtain ⟨vs, H1, I1, r1, v, ev, q1⟩ := hh
  subst ev
  refine ⟨I1.kIn, ?_⟩
  cases r1 with
  | cons rv rn =>
    rename_i v' us'
    cases rn
    show wpAny _ _ (call (.ref C) [v']) _ _ _
    have hlim := I1.nolimit
    obtain ⟨hp, g, dr, tk, os⟩ := s1
    refine wpAny_call (low_made T I1.kIn hlim (by have := hr.dp; omega) fun h' tk' e d M => ?_)
    show MkP X pins σ Q (.ref e) ⟨h', g, dr, tk', os⟩
    obtain ⟨oe, fv, hoe, hc, hd, hdat, h1⟩ := M.obj
    have hns := M.ns
    obtain ⟨G', g1, g2⟩ := restrict h' fun b => decide (b ≠ e)
    have gk : ∀ b, b ≠ e → G'.get? b = h'.get? b := fun b hb => g1 b (decide_eq_true hb)
    have ge : G'.get? e = none := g2 e (by simp)
    have old : ∀ b o, hp.get? b = some o → G'.get? b = some o := fun b o q => (gk b (Nat.ne_of_lt (Nat.lt_of_lt_of_le (Heap.lt_size q) M.new))).trans (M.keep b o q)
    have ob : ObjOk X.prog X.w (upd H1 d (.xd [(fdN b, v)])) G' d (.xd [(fdN b, v)]) :=
      ⟨_, hns.at (fun o q => (gk d M.dne).trans q), fun f => relO_one _ rv f⟩
    have J : Inv X pins σ (upd H1 d (.xd [(fdN b, v)])) ⟨G', g, dr, tk', os⟩ := I1.laid (t' := tk') old M.dbig ob
    refine ⟨e, oe, fv, ⟨G', g, dr, tk', os⟩, _, .ref C, some d, rfl, J, fun b o q => ?_, ge, hoe, ⟨hc, hd⟩, hdat, h1, ?_, rfl, I1.bare, raises_own T.exC T.tyC, q1 d (I1.hok.fresh M.dbig)⟩
    · by_cases hb : b = e
      · have q' : G'.get? b = some o := q
        rw [hb, ge] at q'; cases q'
      · exact (gk b hb).symm.trans q
    · rw [upd_ne (Ne.symm M.dne)]
      exact I1.hok.fresh M.new
theorem s_raise {a : Expr} {xa : Ex} {x : Str} {c : Nat} {p pos pos2 : Pos} {k : Nat} (hc : X.calm = true) (T : ExT X.K (ct.ad c) fI b) (fl : ct.fl c = [fdN b]) (hr : Room k X.A) (tk : Takes X W) (gC : X.mg x = some (.ref (ct.ad c))) (hg : Gl X x) (hdb : (x == ("__debug__" : Str)) = false)
    (ha : PA X [a] (TA_ X.K ct W .dn 1 (ev P F Γ xa).l)) (he : starEach (a :: []) X.env = (false, eval a X.env) :: starEach [] X.env) :
    PS X (.Raise (some (.Call (.Name x p) [a] [] pos)) none pos2) (TS_ X.K ct fresh W U0 H0 (evS P F Γ (.raise c xa))) :=
  PS.imp (ps_raise hc tk (pmk_x T hr gC hg hdb ha he)) fun D σ H ⟨U, S, ρ, Kk, b, r, k⟩ =>
    ⟨U, S, ρ, _, _, b.ok, b.sl, r, fun vs ds U1 S1 H1 len s1 o1 md q => by
      obtain ⟨v, rfl⟩ : ∃ v, vs = [v] := by
        match vs, len with
        | [v], _ => exact ⟨v, rfl⟩
      refine ⟨v, rfl, fun d hd => ?_⟩
      have dn := md.dnl
      refine k.ex _ _ _ U1 S1 _ σ ρ (b.stp (s1.trans o1 (Stp.new hd)) (o1.new hd)) (.mk (xs := [v]) (o1.sh hd) ?_ (by rw [fl]; rfl) (dn.stp o1 (Stp.new hd))) q
      rw [upd_same, fl]; rfl, k.px b⟩
end
end Sb
set_option linter.all false
set_option maxRecDepth 100000
set_option maxHeartbeats 4000000
set_option autoImplicit false
/-! AY: try .. except (A, B, C) as e. -/
namespace L2
open PySem PySem.Spec PyProof.Rows
theorem FlyZ_push {base : Heap} {l : List PySem.Env} {e : Addr} {Z : Obj → Prop} {h : Heap} {o : Obj} (f : HandSPX.FlyingZ base l e Z h) : HandSPX.FlyingZ base l e Z (h.push o) := by
  obtain ⟨h1, h2, h3, oe, vs, T, oT, ts, a1, a2, a3, a4, a5, a6, a7, a8, a9⟩ := f
  have kp : ∀ b u, h.get? b = some u → (h.push o).get? b = some u := fun b u q => Heap.get?_push_of_some _ q
  exact ⟨fun b u q => kp b u (h1 b u q), h2, Heap.FunFrames.of_keeps (fun b u q _ => ⟨u, kp b u q, rfl⟩) h3, oe, vs, T, oT, ts, kp _ _ a1, a2, a3, a4, a5, a6, kp _ _ a7, a8, a9⟩
/-- what the clause 'except (x1, x2, x3) as n' wishes of an exception of the body: slot i is n's -/
def wAs3 (K : PySem.W.Frag) (cs : List Value) (i : Nat) (ts : Addr → Value → Option Addr → TS) (Wout : WX) (D : Ends) : WX := fun cls d σ H =>
  ∃ b, PySem.W.exmAny K cls cs = some b ∧ (b = true → ∀ a, H a = none → ts a cls d { nx := fun σ' H' => D.nx (σ'.set i none) H', rt := D.rt, bk := fun σ' H' => D.bk (σ'.set i none) H', ct := fun σ' H' => D.ct (σ'.set i none) H' } (σ.set i (some (.ref a))) H) ∧
    (b = false → Wout cls d σ H)
section
variable {X : Cx} {x1 x2 x3 n : Str} {c1 c2 c3 : Value} {i : Nat} {body suite : List Stmt} {b₀ : Stmt} {q1 q2 q3 q4 pos pos' : Pos} {tk' : Nat} {tb : WX → TS} {ts : Addr → Value → Option Addr → TS} {Wout : WX}
theorem ps_try_as3 (hs : X.stack = X.env :: X.outer) (hf : X.env.frame = some X.env.locals) (hN : X.N.Nodup) (hi : X.N[i]? = some n) (hln : X.env.kindOf n = some .local) (hc1 : Names X x1 c1) (hc2 : Names X x2 c2) (hc3 : Names X x3 c3) (tk : Takes X Wout)
    (hb : ∀ (W : WX) (pn : List (Addr × Obj)) (xe : Value → Shared → Prop), Takes (X.tr pn xe) W → PassesOwn (model X.prog X.w) X.A X.env xe → PSs (X.tr pn xe) body (tb W))
    (hsu : ∀ (a : Addr) (oe : Obj) (cls : Value) (d : Option Addr) (pn : List (Addr × Obj)), Zc cls d oe → (∃ vs, oe.data = .fields vs) → PSs (X.suite a ((a, oe) :: pn)) (b₀ :: suite) (ts a cls d)) :
    PS X (.Try body [.ExceptHandler (some (.Tuple [.Name x1 q1, .Name x2 q2, .Name x3 q3] tk' q4)) (some n) (b₀ :: suite) pos'] [] [] pos) (fun D σ H => tb (wAs3 X.K [c1, c2, c3] i ts Wout D) D σ H) := by
  refine ⟨fun pins s σ H D I h => ?_⟩
  have ok := I.ok
  have hfr : X.A.frames = some (X.env :: X.outer) := by rw [ok.frames, hs]
  have hloc : Loc X.env.scope n := .inl hln
  refine wpAny_Try_except ?_
  refine wpAny_mono ((hb (wAs3 X.K [c1, c2, c3] i ts Wout D) (X.pn ++ pins) (fun e s₁ => wpAny (model X.prog X.w) X.A (noteFrame e X.env) (fun _ s₂ => wpAny (model X.prog X.w) X.A (setFlight e none) (fun _ s₃ =>
    wpAny (model X.prog X.w) X.A (handleBy e X.env [.ExceptHandler (some (.Tuple [.Name x1 q1, .Name x2 q2, .Name x3 q3] tk' q4)) (some n) (b₀ :: suite) pos']) (SP X pins D) X.xe s₃) X.xe s₂) X.xe s₁) (fun u s' xx => ?_) PassesOwn.looking).run [] s σ H D (I.toTry _) h) (fun f s1 hsp => ?_) (fun e s1 he => he)
  · -- the catch
    obtain ⟨a, B, sI, pins', σ', H', cls, d, rfl, J', nb, up, sky, na, os, ag, b, hb1, hyes, hno⟩ := xx
    have J : Inv X pins σ' H' sI := J'.ofTry ok
    have sky' : Sky B (X.env :: X.outer) a (Zc cls d) X.env.locals s'.heap := by rw [← hs]; exact sky
    show wpAny (model X.prog X.w) X.A (noteFrame (.ref a) X.env) _ _ _
    refine Sky.land Zc.steady hfr hf sky' fun h3 fl3 up3 => ?_
    have J3 : Inv X pins σ' H' { s' with heap := h3 } := J.landed nb fl3.1 (up.trans up3) os ag
    obtain ⟨oe3, vs3, he3, hz3, hd3⟩ := fl3.there
    have notFr : ∀ {h : Heap} {o : Obj} {vs : Array Value}, h.FunFrames B (X.env :: X.outer) → h.get? a = some o → o.data = .fields vs → a ∉ frs (X.env :: X.outer) := fun {h o vs} ff e dd hm => by
      obtain ⟨_, o', e', hnf⟩ := ff.mem hm
      rw [e] at e'; cases e'
      exact hnf _ dd
    have nfr := notFr fl3.2.2.1 he3 hd3
    have nL : a ≠ X.env.locals := fun z => nfr (List.mem_filterMap.mpr ⟨X.env, List.mem_cons_self, by rw [hf, z]⟩)
    have nF : a ∉ X.fs := fun hm => by
      obtain ⟨e, he, q⟩ := List.mem_filterMap.mp hm
      exact nfr (List.mem_filterMap.mpr ⟨e, List.mem_cons_of_mem _ he, q⟩)
    have S3 := J3.suite he3 hd3 na nL nF
    refine wpAny_handleBy_cons (codeAny_handlers_test ?_) (by intro q; cases q)
    have name : ∀ {x : Str} {c : Value} {p : Pos} {Q : Value → Shared → Prop} {E : Value → Shared → Prop}, Names X x c → Q c { s' with heap := h3 } → wpAny (model X.prog X.w) (X.A.mark (some (.ref a))) (eval (.Name x p) X.env) Q E { s' with heap := h3 } := fun {x c p Q E} hc q => by
      obtain ⟨hg, hdbg, hm | ⟨hm, hv, hnn⟩⟩ := hc
      · exact ld_glob (X := X.suite a ((a, oe3) :: (X.pn ++ pins))) S3 hg hm q hdbg
      · exact ld_blt (X := X.suite a ((a, oe3) :: (X.pn ++ pins))) S3 hg hm hv q hnn hdbg
    refine wpAny_Tuple_spliced ?_
    refine Calls.spliced_cons (name hc1 (Calls.spliced_cons (name hc2 (Calls.spliced_cons (name hc3 (Calls.spliced_nil ?_))))))
    refine ⟨by show 3 ≤ sizeLine; rw [sizeLine_eq]; decide, ?_⟩
    let tupo : Obj := { cls := .type "tuple", data := .seq [c1, c2, c3].toArray }
    have fl3p : HandSPX.FlyingZ B (X.env :: X.outer) a (Zc cls d) (h3.push tupo) := FlyZ_push fl3
    have upp : h3.UpToSlots (h3.push tupo) := fun b o e _ => ⟨o.slots, Heap.get?_push_of_some _ e⟩
    have J3p : Inv X pins σ' H' { s' with heap := h3.push tupo } := J3.kept (t' := s'.toks) fun b o e => Heap.get?_push_of_some _ e
    have he3p : (h3.push tupo).get? a = some oe3 := Heap.get?_push_of_some _ he3
    have LT : PySem.W.Looks (model X.prog X.w) (h3.push tupo) (typeOf (.ref a)) cls := fun A Q E s k q => wpAny_typeOf_ref (k _ _ he3p) (by rw [hz3.1]; exact q)
    have LM := PySem.W.exm_tup3 (M := model X.prog X.w) (J3p.kIn) LT (tp := h3.objs.size) (Heap.get?_push_size _ rfl) hb1
    refine LM.here ?_
    cases b with
    | true =>
      refine codeAny_handlers_suite_as ?_
      refine HandSPX.lands_againZ fl3p fun h4 fl4 up4 => ?_
      have J4 : Inv X pins σ' H' { s' with heap := h4 } := J.landed nb fl4.1 (((up.trans up3).trans upp).trans up4) os ag
      obtain ⟨oe4, vs4, he4, hz4, hd4⟩ := fl4.there
      have S4 := J4.suite he4 hd4 na nL nF
      refine store_ok (X := X.suite a ((a, oe4) :: (X.pn ++ pins))) (v := .ref a) S4 hN hi hloc rfl (fun s5 S5 => ?_) (.inr hln)
      refine wpAny_mono ((hsu a oe4 cls d (X.pn ++ pins) hz4 ⟨_, hd4⟩).run [] s5 _ H' _ S5 (hyes rfl a na)) (fun f s6 hsp => ?_) (fun _ _ z => False.elim z)
      have end_ : ∀ {σ6 : St} {H6 : Hp} {Q : Shared → Prop}, Inv (X.suite a ((a, oe4) :: (X.pn ++ pins))) [] σ6 H6 s6 → (∀ s7, Inv X pins (σ6.set i none) H6 s7 → Q s7) →
          wpAny (model X.prog X.w) X.A (do bindName X.env n .none; unbindBehindTheSuite X.env n pos') (fun _ s7 => Q s7) X.xe s6 := fun {σ6 H6 Q} S6 hq => gone_ok (S6.unsuite ok) hN hi hln hq
      cases f with
      | next =>
        obtain ⟨σ6, H6, S6, q6⟩ := hsp
        exact end_ S6 fun s7 J7 => ⟨_, _, J7, q6⟩
      | brk =>
        obtain ⟨σ6, H6, S6, q6⟩ := hsp
        exact end_ S6 fun s7 J7 => ⟨_, _, J7, q6⟩
      | cont =>
        obtain ⟨σ6, H6, S6, q6⟩ := hsp
        exact end_ S6 fun s7 J7 => ⟨_, _, J7, q6⟩
      | ret u =>
        obtain ⟨v6, σ6, H6, S6, r6, q6⟩ := hsp
        exact end_ S6 fun s7 J7 => ⟨_, _, _, J7, r6, q6⟩
    | false =>
      show wpAny _ X.A (handleBy (.ref a) X.env []) _ _ _
      refine wpAny_handleBy_nil ?_
      obtain ⟨k1, k2, k3, oe, vs, T, oT, ts', he, hz, hd, h1, hr⟩ := id fl3p
      unfold PySem.passOn
      refine wpAny_bind (wpAny_field he hd h1 ?_)
      rw [if_neg (show ¬ ((Value.ref T == Value.none) = true) from by simp)]
      have fin : wpAny (model X.prog X.w) X.A (setFlight (.ref a) X.env.frame) (fun _ s4 => wpAny (model X.prog X.w) X.A (throw (.ref a) : Sem Flow) (SP X pins D) X.xe s4) X.xe { s' with heap := h3.push tupo } := by
        rw [hf]
        refine HandSPX.setFlight_upZ fl3p fun h4 hh4 up4 => wpAny_throw (tk _ _ ?_)
        exact ⟨a, B, sI, pins, σ', H', cls, d, rfl, J, nb, (((up.trans up3).trans upp).trans up4), .inr (.inr (by rw [hs]; exact hh4)), na, os, ag, hno rfl⟩
      first
        | exact wpAny_bind (wpAny_pure (wpAny_bind fin))
        | exact wpAny_bind fin
  · cases f with
    | next =>
      obtain ⟨σ', H', J', q⟩ := hsp
      exact wpAny_execs_nil ⟨σ', H', J'.ofTry ok, q⟩
    | brk =>
      obtain ⟨σ', H', J', q⟩ := hsp
      exact ⟨σ', H', J'.ofTry ok, q⟩
    | cont =>
      obtain ⟨σ', H', J', q⟩ := hsp
      exact ⟨σ', H', J'.ofTry ok, q⟩
    | ret u =>
      obtain ⟨v, σ', H', J', r, q⟩ := hsp
      exact ⟨v, σ', H', J'.ofTry ok, r, q⟩
end
end L2
set_option linter.all false
set_option maxRecDepth 100000
set_option maxHeartbeats 4000000
set_option autoImplicit false
/-! AZ: what may be asked of the exception that is handled. -/
namespace Sb
open PySem PySem.Spec PyProof.Rows L2
/-- the exception that is handled, as it stands in the context -/
structure HotO (ct : CT) (p : Addr × Obj) (c : Nat) (dx : Addr) : Prop where
  hx : ct.hx = some (p.1, c, dx)
  zc : Zc (.ref (ct.ad c)) (some dx) p.2
  fld : ∃ vs, p.2.data = .fields vs
def HotP (ct : CT) (X : Cx) (p : Addr × Obj) (c : Nat) (dx : Addr) : Prop := p ∈ X.pn ∧ HotO ct p c dx
section
variable {X : Cx} {ct : CT} {W : WX} {m : Mo} {P : Prog} {F : Fsem} {Γ : List Clo}
theorem inst_of {H : Hp} {h : Heap} {oe : Obj} {a D dx : Addr} {fs : List (Str × V)} {prog : Program} {w : World} (hk : HOk prog w H h) (he : h.get? a = some oe) (hz : Zc (.ref D) (some dx) oe) (hf : ∃ vs, oe.data = .fields vs) (e : H dx = some (.xd fs)) :
    ∃ (od : Obj) (mA : Str → Option Value), PySem.W.InstAt h a oe D (some od) ∧ (∀ n, PySem.W.lookIn n od = some (mA n)) ∧ ∀ f, RelO (fs.lookup f) (mA f) := by
  have hx : ObjOk prog w H h dx (.xd fs) := hk dx _ e
  obtain ⟨mA, hns, hr⟩ := hx
  obtain ⟨od, ho, hl⟩ := lookIn_ns hns
  obtain ⟨vs, hd⟩ := hf
  exact ⟨od, mA, ⟨he, hz.1, by unfold PySem.W.notCls; rw [hd] <;> rfl, by rw [hz.2]; exact ho⟩, hl, hr⟩
def rIsX (K : PySem.W.Frag) (D a dx : Addr) : List V → Hp → VK → Prop := fun xs H Q => ∃ (c : V) (cv : Value) (b : Bool) (fs : List (Str × V)), xs = [.ref a, c] ∧ (∀ u, RelV c u → u = cv) ∧ PySem.W.kitOne K (.ref D) cv = some b ∧ H dx = some (.xd fs) ∧ Q (.bl b) H
theorem call_isX {p : Addr × Obj} {D dx : Addr} (C : ExcC X.K D) (hp : p ∈ X.pn) (hz : Zc (.ref D) (some dx) p.2) (hf : ∃ vs, p.2.data = .fields vs) : CallR X (.builtin "isinstance") (rIsX X.K D p.1 dx) := by
  intro pins s σ H xs us Q I r h
  obtain ⟨c, cv, b, fs, rfl, hcv, e, hd, q⟩ := h
  cases r with
  | cons rx rr =>
    cases rr with
    | cons rt rr =>
      cases rr
      cases rx
      have ec := hcv _ rt
      subst ec
      obtain ⟨hget, _⟩ := I.pin p (List.mem_append.mpr (.inl hp))
      obtain ⟨od, mA, J, _⟩ := inst_of I.hok hget hz hf hd
      obtain ⟨cd, hcl, _⟩ := PySem.W.any_some C.hd
      exact PySem.W.kia_one (PySem.W.kitx_exc (by rw [hcl]; rfl) C.hg C.hk C.hs C.ha C.hn C.ht C.hm) I.kIn J e (fun z => nomatch z) fun tk => ⟨.bl b, H, I.kept (t' := tk) fun _ _ z => z, rfl, q⟩
def tXp (a dx : Addr) (f : Str) (te : TE) : TE := fun σ H Q => te σ H fun x H1 => x = .ref a ∧ ∃ (fs : List (Str × V)) (v : V), H1 dx = some (.xd fs) ∧ fs.lookup f = some v ∧ Q v H1
theorem pe_xp {p : Addr × Obj} {C dx : Addr} {e : Expr} {te : TE} {pos : Pos} {n : Str} (T : XfC X.K C) (hno : PySem.W.findIn X.K (.ref C) n = some none) (hp : p ∈ X.pn) (hz : Zc (.ref C) (some dx) p.2) (hf : ∃ vs, p.2.data = .fields vs)
    (he : PE X e te) (hb : attributeBase e n X.env (eval e X.env) = eval e X.env) : PE X (.Attribute e n pos) (tXp p.1 dx n te) := by
  refine ⟨fun pins s σ H Q I h => ?_⟩
  refine attr_of hb (thn (he.run pins s σ H _ I h) fun u s1 hh => ?_)
  obtain ⟨x, H1, I1, rx, ex, fs, v, ea, l, q⟩ := hh
  subst ex
  obtain rfl : u = Value.ref p.1 := rx
  obtain ⟨ha, _⟩ := I1.pin p (List.mem_append_left _ hp)
  obtain ⟨od, mA, J, hl, hr⟩ := inst_of I1.hok ha hz hf ea
  obtain ⟨u, hu, ru⟩ := RelO.some_of (v := v) (o := mA n) (by rw [← l]; exact hr n)
  exact HandSPX.exc_get I1.kIn J T.ga T.gg T.exC (PySem.W.findObj_own T.hdC hno rfl (by rw [hl, hu])) (handed_of ru) ⟨v, H1, I1.tok _, ru, q⟩
variable {a e2 : Expr} {xa : Ex} {p pos : Pos}
theorem exc_dn {U : Um} {H : Hp} {v : V} {c' c : Nat} {ds : List D} {q : Addr × Obj} {dx : Addr} (ho : HotO ct q c dx) (h : Dn X.K ct U H v (.exc c' ds)) : c' = c ∧ v = .ref q.1 ∧ ∃ xs, H dx = some (.xd ((ct.fl c).zip xs)) ∧ U dx = .sh ∧ xs.length = (ct.fl c).length ∧ DnL X.K ct U H xs ds := by
  cases h with
  | exc e k h n l =>
    rw [ho.hx] at e
    cases e
    exact ⟨rfl, rfl, _, h, k, n, l⟩
theorem x_isx {k : Option Nat} {s : Str} {l : List Nat} {q : Addr × Obj} {c : Nat} {dx : Addr} {tv : V} {cv : Value} (hot : HotP ct X q c dx) (C : ∀ c fs, P.exs.lookup c = some fs → ExcC X.K (ct.ad c)) (hkit : ∀ c fs, P.exs.lookup c = some fs → PySem.W.kitOne X.K (.ref (ct.ad c)) cv = some (l.contains c)) (hcv : ∀ u, RelV tv u → u = cv)
    (hg : Gl X "isinstance") (hm : X.mg "isinstance" = none) (hs : starEach [a, e2] X.env = (false, eval a X.env) :: starEach [e2] X.env) (hs2 : starEach [e2] X.env = (false, eval e2 X.env) :: starEach [] X.env) (hpl : (backTo pos (starEach [e2] X.env)).any (·.1) = false)
    (ha : PE X a (TE_ X.K ct W .dn (ev P F Γ xa).e)) (ht : PE X e2 (tC tv)) : PE X (.Call (.Name "isinstance" p) [a, e2] [] pos) (TE_ X.K ct W m (ev P F Γ (.isx xa k s l)).e) := by
  by_cases hc : ∃ fs, P.exs.lookup c = some fs
  · obtain ⟨fs0, hfs⟩ := hc
    refine PE.imp (pe_callB (call_isX (C c fs0 hfs) hot.1 hot.2.zc hot.2.fld) hg hm (by decide +kernel) (pa_cons ha (pa_cons ht pa_nil hs2) hs) (by decide) (by decide) hs hpl) fun σ H Qv ⟨U, S, ρ, Q, E, ok, sl, r, po, px⟩ => ?_
    refine ⟨U, S, ρ, _, E, ok, sl, r, fun v d U1 S1 H1 s1 o1 m1 q1 => ?_, px⟩
    cases d with
    | exc c' ds =>
      obtain ⟨_, q1⟩ := q1
      obtain ⟨rfl, rfl, xs, hd, _⟩ := exc_dn hot.2 m1
      exact ⟨tv, cv, _, _, rfl, hcv, hkit _ _ hfs, hd, po _ _ U1 S1 H1 s1 o1 (.flat (.bl _) fun _ e => nomatch e) q1⟩
    | _ => exact q1.elim
  · -- the class is none of those: nothing is asked
    refine PE.imp (pe_callB (show CallR X (.builtin "isinstance") (fun _ _ _ => False) from fun _ _ _ _ _ _ _ _ _ z => z.elim) hg hm (by decide +kernel) (pa_cons ha (pa_cons ht pa_nil hs2) hs) (by decide) (by decide) hs hpl) fun σ H Qv ⟨U, S, ρ, Q, E, ok, sl, r, po, px⟩ => ?_
    refine ⟨U, S, ρ, _, E, ok, sl, r, fun v d U1 S1 H1 s1 o1 m1 q1 => ?_, px⟩
    cases d with
    | exc c' ds =>
      obtain ⟨q0, q1⟩ := q1
      obtain ⟨rfl, rfl, xs, hd, _⟩ := exc_dn hot.2 m1
      exact absurd (Option.isSome_iff_exists.mp q0) hc
    | _ => exact q1.elim
theorem x_attx {n : Nat} {f : Str} {q : Addr × Obj} {c : Nat} {dx : Addr} (hmr : m ≠ .fr) (hot : HotP ct X q c dx) (XA : ∀ c fs i, P.exs.lookup c = some fs → fs.idxOf? n = some i → (ct.fl c)[i]? = some f ∧ (ct.fl c).Nodup ∧ PySem.W.findIn X.K (.ref (ct.ad c)) f = some none ∧ XfC X.K (ct.ad c))
    (hb : attributeBase a f X.env (eval a X.env) = eval a X.env) (ha : PE X a (TE_ X.K ct W .dn (ev P F Γ xa).e)) : PE X (.Attribute a f pos) (TE_ X.K ct W m (ev P F Γ (.attx xa n)).e) := by
  by_cases hc : ∃ fs i, P.exs.lookup c = some fs ∧ fs.idxOf? n = some i
  · obtain ⟨fs0, i0, hfs, hi0⟩ := hc
    obtain ⟨a1, a2, a3, a4⟩ := XA c fs0 i0 hfs hi0
    refine PE.imp (pe_xp a4 a3 hot.1 hot.2.zc hot.2.fld ha hb) fun σ H Qv ⟨U, S, ρ, Q, E, ok, sl, r, po, px⟩ => ?_
    refine ⟨U, S, ρ, _, E, ok, sl, r, fun v d U1 S1 H1 s1 o1 m1 q1 => ?_, px⟩
    cases d with
    | exc c' ds =>
      obtain ⟨rfl, rfl, xs, hd, _, _, ld⟩ := exc_dn hot.2 m1
      simp only [hfs, hi0] at q1
      cases e : ds[i0]? with
      | none => rw [e] at q1; exact q1.elim
      | some dv =>
        rw [e] at q1
        obtain ⟨vv, e3, dn⟩ := ld.get i0 e
        exact ⟨rfl, _, vv, hd, zip_lookup a2 a1 e3, po _ _ U1 S1 H1 s1 o1 (.ofDn dn hmr) q1⟩
    | _ => exact q1.elim
  · refine ⟨fun pins s σ H Qv I ⟨U, S, ρ, Q, E, ok, sl, r, po, px⟩ => ?_⟩
    refine attr_of hb (thn (ha.run pins s σ H (fun _ _ => False) I ⟨U, S, ρ, _, E, ok, sl, r, fun v d U1 S1 H1 s1 o1 m1 q1 => ?_, px⟩) fun u s1 ⟨_, _, _, _, z⟩ => z.elim)
    cases d with
    | exc c' ds =>
      obtain ⟨rfl, rfl, xs, hd, _, _, ld⟩ := exc_dn hot.2 m1
      cases e1 : P.exs.lookup c' with
      | none => simp only [e1] at q1
      | some fs =>
        cases e2 : fs.idxOf? n with
        | none => simp only [e1, e2] at q1
        | some i => exact hc ⟨fs, i, e1, e2⟩
    | _ => exact q1.elim
end
end Sb
set_option linter.all false
set_option maxRecDepth 100000
set_option maxHeartbeats 4000000
set_option autoImplicit false
/-! AT: another exception is handled, another closure is there: the data stay. Calls while an exception is handled. try .. except. -/
namespace Sb
open PySem PySem.Spec PyProof.Rows L2
def CT.w (ct : CT) (h : Option (Addr × Nat × Addr)) (c : Option (Addr × Addr × Str)) : CT := { ct with hx := h, cl := c }
def Cell.noX : Cell → Bool
  | .lst ds => D.noXL ds
  | .ins _ fs => D.noXL fs
  | .dct _ => true
section
variable {K : PySem.W.Frag} {ct : CT} {h : Option (Addr × Nat × Addr)} {c : Option (Addr × Addr × Str)}
mutual
theorem Dn.conv {U : Um} {H : Hp} : ∀ {v : V} {d : D}, Dn K ct U H v d → d.noX = true → Dn K (ct.w h c) U H v d
  | _, _, .non, _ => .non
  | _, _, .bl b, _ => .bl b
  | _, _, .int i, _ => .int i
  | _, _, .str x, _ => .str x
  | _, _, .lst k r l, n => .lst k r (DnL.conv l n)
  | _, _, .tup k r p l, n => .tup k r p (DnL.conv l n)
  | _, _, .scr z, _ => .scr z
  | _, _, .obj k r e l, n => .obj (ct := ct.w h c) k r e (DnL.conv l n)
  | _, _, .cls i, _ => .cls (ct := ct.w h c) i
  | _, _, .sd k r, _ => .sd k r
  | _, _, .ptr k, _ => .ptr k
  | _, _, .exc _ _ _ _ _, n => nomatch n
theorem DnL.conv {U : Um} {H : Hp} : ∀ {vs : List V} {ds : List D}, DnL K ct U H vs ds → D.noXL ds = true → DnL K (ct.w h c) U H vs ds
  | _, _, .nil, _ => .nil
  | _, _, .cons (d := d) (ds := ds) a t, n => by
    have n : (D.noX d && D.noXL ds) = true := n
    rw [Bool.and_eq_true] at n
    exact .cons (Dn.conv a n.1) (DnL.conv t n.2)
end
mutual
theorem Dn.noX (e : ct.hx = none) {U : Um} {H : Hp} : ∀ {v : V} {d : D}, Dn K ct U H v d → d.noX = true
  | _, _, .non => rfl
  | _, _, .bl b => rfl
  | _, _, .int i => rfl
  | _, _, .str x => rfl
  | _, _, .lst _ _ l => DnL.noX e l
  | _, _, .tup _ _ _ l => DnL.noX e l
  | _, _, .scr z => rfl
  | _, _, .obj _ _ _ l => DnL.noX e l
  | _, _, .cls i => rfl
  | _, _, .sd _ _ => rfl
  | _, _, .ptr _ => rfl
  | _, _, .exc z _ _ _ _ => by rw [e] at z; cases z
theorem DnL.noX (e : ct.hx = none) {U : Um} {H : Hp} : ∀ {vs : List V} {ds : List D}, DnL K ct U H vs ds → D.noXL ds = true
  | _, _, .nil => rfl
  | _, _, .cons (d := d) (ds := ds) a t => by
    show (D.noX d && D.noXL ds) = true
    rw [Dn.noX e a, DnL.noX e t]; rfl
end
theorem CellOk.conv {U : Um} {H : Hp} {a : Addr} {z : Cell} (k : CellOk K ct U H a z) (n : z.noX = true) : CellOk K (ct.w h c) U H a z := by
  cases z with
  | lst ds => obtain ⟨xs, h1, h2⟩ := k; exact ⟨xs, h1, h2.conv n⟩
  | ins i fs => obtain ⟨dx, xs, h1, h2, h3⟩ := k; exact ⟨dx, xs, h1, h2, h3.conv n⟩
  | dct _ => exact k
theorem Ok.conv {U : Um} {S : Store} {H : Hp} (o : Ok K ct U S H) (n : ∀ a z, S a = some z → z.noX = true) : Ok K (ct.w h c) U S H :=
  ⟨o.ce, fun a z e => (o.cell a z e).conv (n a z e), o.there, o.tab⟩
theorem Ok.noX (e : ct.hx = none) {U : Um} {S : Store} {H : Hp} (o : Ok K ct U S H) : ∀ a z, S a = some z → z.noX = true := fun a z q => by
  have k := o.cell a z q
  cases z with
  | lst ds => obtain ⟨xs, h1, h2⟩ := k; exact h2.noX e
  | ins i fs => obtain ⟨dx, xs, h1, h2, h3⟩ := k; exact h3.noX e
  | dct _ => rfl
theorem Ok.up (e : ct.hx = none) {U : Um} {S : Store} {H : Hp} (o : Ok K ct U S H) : Ok K (ct.w h c) U S H := o.conv (o.noX e)
theorem Ok.down {U : Um} {S : Store} {H : Hp} (o : Ok K (ct.w h c) U S H) (n : ∀ a z, S a = some z → z.noX = true) : Ok K ct U S H := o.conv (h := ct.hx) (c := ct.cl) n
theorem Dn.up (e : ct.hx = none) {U : Um} {H : Hp} {v : V} {d : D} (k : Dn K ct U H v d) : Dn K (ct.w h c) U H v d := k.conv (k.noX e)
theorem Dn.down {U : Um} {H : Hp} {v : V} {d : D} (k : Dn K (ct.w h c) U H v d) (n : d.noX = true) : Dn K ct U H v d := k.conv (h := ct.hx) (c := ct.cl) n
theorem DnL.up (e : ct.hx = none) {U : Um} {H : Hp} {vs : List V} {ds : List D} (k : DnL K ct U H vs ds) : DnL K (ct.w h c) U H vs ds := k.conv (k.noX e)
theorem DnL.down {U : Um} {H : Hp} {vs : List V} {ds : List D} (k : DnL K (ct.w h c) U H vs ds) (n : D.noXL ds = true) : DnL K ct U H vs ds := k.conv (h := ct.hx) (c := ct.cl) n
theorem Vn.up (e : ct.hx = none) {U : Um} {H : Hp} {v : V} {d : D} (k : Vn K ct U H v d) : Vn K (ct.w h ct.cl) U H v d := by
  cases k with
  | of k => exact .of (k.up e)
  | bor a b l => exact .bor a b (l.up e)
  | own a b l => exact .own a b (l.up e)
  | clo z a b => exact .clo (ct := ct.w h ct.cl) z a b
theorem Sl.up (e : ct.hx = none) {U : Um} {H : Hp} {σ : L2.St} {ρ : Env} (k : Sl K ct U H σ ρ) : Sl K (ct.w h ct.cl) U H σ ρ :=
  ⟨k.len, fun i d q => by obtain ⟨v, h1, h2⟩ := k.get i d q; exact ⟨v, h1, h2.up e⟩⟩
theorem Bd.up (e : ct.hx = none) {U0 U : Um} {H0 H : Hp} {S : Store} {σ : L2.St} {ρ : Env} (b : Bd K ct U0 H0 U S H σ ρ) : Bd K (ct.w h ct.cl) U0 H0 U S H σ ρ := ⟨b.ok.up e, b.sl.up e, b.so, b.st⟩
theorem Md.down {fresh : Bool} {H0 : Hp} {U : Um} {S : Store} {H : Hp} {v : V} {d : D} (k : Md K (ct.w h c) (moR fresh) H0 U S H v d) (n : d.noX = true) (nS : ∀ a z, S a = some z → z.noX = true) : Md K ct (moR fresh) H0 U S H v d := by
  cases fresh with
  | false => exact Dn.down (show Dn K (ct.w h c) U H v d from k) n
  | true =>
    have k : FrS K (ct.w h c) H0 U S H v d := k
    refine (show FrS K ct H0 U S H v d from ⟨k.dn.down n, fun ds e => ?_⟩)
    obtain ⟨p, xs, h1, h2, h3, h4, h5, h6⟩ := k.lst ds e
    subst e
    exact ⟨p, xs, h1, h2, h3, h4, h5.down n, h6.down nS⟩
theorem Xn.down {U : Um} {H : Hp} {cls : Value} {da : Option Addr} {x : D} (k : Xn K (ct.w h c) U H cls da x) (n : ∀ c ds, x = .exc c ds → D.noXL ds = true) : Xn K ct U H cls da x := by
  cases k with
  | mk a b l d => exact .mk (ct := ct) a b l (d.down (n _ _ rfl))
theorem Xn.noX (e : ct.hx = none) {U : Um} {H : Hp} {cls : Value} {da : Option Addr} {x : D} (k : Xn K ct U H cls da x) : ∀ c ds, x = .exc c ds → D.noXL ds = true := by
  cases k with
  | mk a b l d => intro c ds z; cases z; exact d.noX e
end
/-! ### calls while an exception is handled -/
structure RoomQ (k : Nat) (A : Around) : Prop where
  r : L2H.RoomH k A
  g : A.guards = some []
theorem RoomQ.mono {j k : Nat} {A : Around} (h : RoomQ k A) (l : j ≤ k) : RoomQ j A := ⟨h.r.mono l, h.g⟩
theorem RoomQ.deeper {k : Nat} {A : Around} (h : RoomQ (k + 1) A) (env : PySem.Env) : RoomQ k (A.deeper env) := ⟨h.r.deeper env, h.g⟩
def FnQ (P : Program) (w : World) (K : PySem.W.Frag) (mg : Str → Option Value) (base : Heap) (ct : CT) (k : Nat) (f : Addr) (fd : FuncData) (ps : List Str) (sp : Sp) : Prop :=
  ∀ (A : Around) (outer : List PySem.Env) (s : Shared) (H : Hp) (args : Args) (us : List Value) (vs : List V) (Q : VK) (E : XK) (p : Addr × Obj) (c : Nat) (dx : Addr), RoomQ k A → L2H.PinOk outer H s p → HotO ct p c dx → Env0 P w K mg base A outer s H → BindsTo s fd args (ps.zip us) → Vals vs us → sp vs H Q E →
    codeAny (model P w) A (.call (.ref f) args) (CR (L2.CX P w) outer P w H s Q E) s
section
variable {X : Cx} {ct : CT} {W : WX} {P : Prog} {F : Fsem} {Γ : List Clo} {fresh : Bool} {U0 : Um} {H0 : Hp} {k : Nat} {f : Addr} {fd : FuncData} {ps : List Str} {sp : Sp}
theorem run_fq {p : Addr × Obj} {c : Nat} {dx : Addr} (G : FnQ X.prog X.w X.K X.mg X.base ct k f fd ps sp) (hr : RoomQ k X.A) (hot : HotP ct X p c dx) (tk : Takes X W) : RunsF X W f fd ps sp := by
  intro pins σ H s Q ks us ws full vs I hb r h
  have P1 := I.pin p (List.mem_append_left _ hot.1)
  have hpin : L2H.PinOk X.stack H s p := ⟨P1.1, P1.2.1, fun hm => (List.mem_cons.mp (I.stkSub p.1 hm)).elim P1.2.2.1 P1.2.2.2.1, P1.2.2.2.2⟩
  refine wpAny_call (codeAny_mono (G X.A X.stack s H ⟨us, ks.zip ws⟩ full vs Q _ p c dx hr hpin hot.2 I.env0 hb r h) fun r s' hq => ?_)
  cases r with
  | error e => exact passAt tk σ pins H s e s' I hq
  | ok fl =>
    cases fl with
    | ret u => exact I.after hq
    | next => exact False.elim hq
    | brk => exact False.elim hq
    | cont => exact False.elim hq
/-! ### a closure is called -/
def TAct (K : PySem.W.Frag) (ct : CT) (W : WX) (U0 : Um) (H0 : Hp) (i : Nat) (cl : Clo) : TE := fun σ H Qv => ∃ U S ρ Q E, Bd K ct U0 H0 U S H σ ρ ∧ ρ[i]? = some (some (.clo 0)) ∧ cl [] S Q E ∧ Po K ct .dn U H Q Qv ∧ Px K ct W U H E σ
theorem s_act {i j : Nat} {st : Stmt} {te : TE} {cl : Clo} (hps : PS X st (tAsg te (gName i))) (imp : ∀ σ H Q, TAct X.K ct W U0 H0 j cl σ H Q → te σ H Q) (one : ∀ (ρ : Env) (j' : Nat) , Γ[j']? = some cl ∨ Γ[j']? = none) (z : ∀ (U : Um) (H : Hp) (v : V) (j' : Nat), Vn X.K ct U H v (.clo j') → j' = 0) :
    PS X st (TS_ X.K ct fresh W U0 H0 (evS P F Γ (.asg (.var i) (.callv j .nil)))) :=
  PS.imp hps fun D σ H ⟨U, S, ρ, Kk, b, r, k⟩ => imp σ H _ (by
    have r : (match ρ[j]? with
      | some (some (.clo j')) => (match Γ[j']? with
        | some c => c [] S (fun d S => Kk.nx (ρ.set i (some d)) S) (Kk.ex ρ)
        | none => False)
      | _ => False) := r
    split at r
    · rename_i j' e
      obtain ⟨v, h1, h2⟩ := b.sl.get j _ e
      obtain rfl := z _ _ _ _ h2
      rcases one ρ 0 with g | g
      · rw [g] at r
        exact ⟨U, S, ρ, _, _, b, e, r, fun v d U1 S1 H1 s1 o1 m1 q1 => k.nx U1 S1 H1 _ _ ((b.stp s1 o1).put m1) (s1.sh b.ok) q1, k.px b⟩
      · rw [g] at r; exact r.elim
    · exact r.elim)
/-! ### try .. except (A, B, C) as n: .. return -/
def tSuite (K : PySem.W.Frag) (ct : CT) (fresh : Bool) (U0 : Um) (H0 : Hp) (r : Env → Store → Ko → Prop) (a : Addr) (cls : Value) (d : Option Addr) : TS := fun D σ H => ∃ c dx, cls = .ref (ct.ad c) ∧ d = some dx ∧ TS_ K (ct.w (some (a, c, dx)) ct.cl) fresh WF U0 H0 r D σ H
theorem s_try3 {cs l : List Nat} {x c1 c2 c3 : Nat} {x1 x2 x3 n : Str} {body suite : List Stmt} {b₀ : Stmt} {q1 q2 q3 q4 pos pos' : Pos} {tk' : Nat} {sb sh : Sx} (hnone : ct.hx = none) (hcs : cs = [c1, c2, c3]) (hs : X.stack = X.env :: X.outer) (hf : X.env.frame = some X.env.locals) (hN : X.N.Nodup) (hi : X.N[x]? = some n) (hln : X.env.kindOf n = some .local)
    (hc1 : Names X x1 (.ref (ct.ad c1))) (hc2 : Names X x2 (.ref (ct.ad c2))) (hc3 : Names X x3 (.ref (ct.ad c3))) (tk : Takes X W)
    (hex : ∀ c fs, P.exs.lookup c = some fs → PySem.W.exmAny X.K (.ref (ct.ad c)) [.ref (ct.ad c1), .ref (ct.ad c2), .ref (ct.ad c3)] = some (l.contains c))
    (hb : ∀ (W : WX) (pn : List (Addr × Obj)) (xe : Value → Shared → Prop), Takes (X.tr pn xe) W → PassesOwn (model X.prog X.w) X.A X.env xe → PSs (X.tr pn xe) body (TS_ X.K ct fresh W U0 H0 (evS P F Γ sb)))
    (hsu : ∀ (a : Addr) (oe : Obj) (c : Nat) (dx : Addr) (pn : List (Addr × Obj)), HotO (ct.w (some (a, c, dx)) ct.cl) (a, oe) c dx → PSs (X.suite a ((a, oe) :: pn)) (b₀ :: suite) (TS_ X.K (ct.w (some (a, c, dx)) ct.cl) fresh WF U0 H0 (evS P F Γ sh))) :
    PS X (.Try body [.ExceptHandler (some (.Tuple [.Name x1 q1, .Name x2 q2, .Name x3 q3] tk' q4)) (some n) (b₀ :: suite) pos'] [] [] pos) (TS_ X.K ct fresh W U0 H0 (evS P F Γ (.try_ sb cs l x sh))) := by
  refine PS.imp (ps_try_as3 (tb := fun W => TS_ X.K ct fresh W U0 H0 (evS P F Γ sb)) (ts := tSuite X.K ct fresh U0 H0 (evS P F Γ sh)) hs hf hN hi hln hc1 hc2 hc3 tk hb fun a oe cls d pn hz hfd => ⟨fun pins s σ H D I h => ?_⟩) fun D σ H ⟨U, S, ρ, Kk, b, r, k⟩ => ?_
  · obtain ⟨c, dx, rfl, rfl, h⟩ := h
    exact (hsu a oe c dx pn ⟨rfl, hz, hfd⟩).run pins s σ H D I h
  · refine ⟨U, S, ρ, _, b, r, k.nx, k.rt, k.bk, k.ct_, fun cls da e U1 S1 H1 σ1 ρ1 b1 xn q => ?_⟩
    have nd := xn.noX hnone
    cases xn with
    | @mk c dx xs ds k1 k2 k3 k4 =>
      have q : (P.exs.lookup c).isSome = true ∧ if l.contains c = true then
        evS P F Γ sh (ρ1.set x (some (.exc c ds))) S1 { nx := fun _ _ => False, rt := fun d S2 => S2 = S1 ∧ d.noX = true ∧ Kk.rt d S2, bk := fun _ _ => False, ct := fun _ _ => False, ex := fun _ _ _ => False }
        else Kk.ex ρ1 (.exc c ds) S1 := q
      obtain ⟨q0, q⟩ := q
      obtain ⟨fs, hfs⟩ := Option.isSome_iff_exists.mp q0
      refine ⟨l.contains c, hex c fs hfs, fun hl a ha => ?_, fun hl => ?_⟩
      · rw [if_pos hl] at q
        have b2 : Bd X.K (ct.w (some (a, c, dx)) ct.cl) U0 H0 U1 S1 H1 σ1 ρ1 := b1.up hnone
        refine ⟨c, dx, rfl, rfl, U1, S1, ρ1.set x (some (.exc c ds)), _, b2.put (.exc (ct := ct.w (some (a, c, dx)) ct.cl) rfl k1 k2 k3 (k4.up hnone)), q, ⟨fun _ _ _ _ _ _ _ z => z.elim, fun v d U2 S2 H2 s2 o2 md qr => ?_, fun _ _ _ _ _ _ _ z => z.elim, fun _ _ _ _ _ _ _ z => z.elim, fun _ _ _ _ _ _ _ _ _ _ z => z.elim⟩⟩
        obtain ⟨rfl, hn, qr⟩ := qr
        have nS := b1.ok.noX hnone
        exact k.rt v d U2 S2 H2 s2 (o2.down nS) (md.down hn nS) qr
      · rw [if_neg (by rw [hl]; decide)] at q
        exact k.ex _ _ _ U1 S1 H1 σ1 ρ1 b1 (.mk k1 k2 k3 k4) q
end
end Sb
set_option linter.all false
set_option maxRecDepth 100000
set_option maxHeartbeats 4000000
set_option autoImplicit false
/-! AU: told(lambda: ..). -/
namespace Sb
open PySem PySem.Spec PyProof.Rows L2
section
variable {K : PySem.W.Frag} {ct : CT} {h : Option (Addr × Nat × Addr)} {c : Option (Addr × Addr × Str)}
theorem Md.noX (e : ct.hx = none) {fresh : Bool} {H0 : Hp} {U : Um} {S : Store} {H : Hp} {v : V} {d : D} (k : Md K ct (moR fresh) H0 U S H v d) : d.noX = true := by
  cases fresh with
  | false => exact Dn.noX e (show Dn K ct U H v d from k)
  | true => exact Dn.noX e (show FrS K ct H0 U S H v d from k).dn
theorem Xn.up (e : ct.hx = none) {U : Um} {H : Hp} {cls : Value} {da : Option Addr} {x : D} (k : Xn K ct U H cls da x) : Xn K (ct.w h c) U H cls da x := by
  cases k with
  | mk a b l d => exact .mk (ct := ct.w h c) a b l (d.up e)
end
/-- the call of a def with a closure -/
def ToldG (P : Program) (w : World) (K : PySem.W.Frag) (mg : Str → Option Value) (base : Heap) (ct : CT) (k : Nat) (a : Addr) (fd : FuncData) (fn : Fn) (sem : Clo → Store → QD → QD → Prop) : Prop :=
  ∀ (A : Around) (outer : List PySem.Env) (s : Shared) (H : Hp) (args : Args) (fl c' : Addr) (qn : Str) (U : Um) (S : Store) (cl : Clo) (Q E : QD) (Qv : VK) (E' : XK),
    RoomG k A → Env0 P w K mg base A outer s H → BindsTo s fd args ((fn.names.take fn.np).zip [.ref fl]) → Ok K (ct.w none (some (fl, c', qn))) U S H → sem cl S Q E → Po K (ct.w none (some (fl, c', qn))) (moR fn.fresh) U H Q Qv → PxE K (ct.w none (some (fl, c', qn))) U H E E' →
    U c' = .sh → H c' = some (LamX.CodeO c' qn) →
    (∀ (pn : List (Addr × Obj)) (xe : Value → Shared → Prop) (W : WX) (i : Nat) (n : Str) (p1 p2 : Pos), Takes ((cxOf (L2.CX P w) P w K mg base fn.names fd.qualname fd.scope a fd.code A outer s H E').tr pn xe) W → fn.names[i]? = some n → Vis fd.scope n → (n == ("__debug__" : Str)) = false → (n == ("__classdict__" : Str)) = false →
      PE ((cxOf (L2.CX P w) P w K mg base fn.names fd.qualname fd.scope a fd.code A outer s H E').tr pn xe) (.Call (.Name n p1) [] [] p2) (TAct K (ct.w none (some (fl, c', qn))) W U H i cl)) →
    codeAny (model P w) A (.call (.ref a) args) (CR (L2.CX P w) outer P w H s Qv E') s
section
variable {X : Cx} {ct : CT} {W : WX} {m : Mo} {P : Prog} {F : Fsem} {Γ : List Clo}
theorem x_lamc {f : Nat} {fn : Fn} {fd : FuncData} {k : Nat} {x : Str} {c P0 : Addr} {params : Arguments} {body : Expr} {scope : Scope} {xb : Ex} {p lpos pos : Pos} (hnone : ct.hx = none)
    (hnp : (fn.names.take fn.np).length = 1) (B : BindF X.K ct fd (fn.names.take fn.np) fn.dfl 1 [] []) (TG : ToldG X.prog X.w X.K X.mg X.base ct (k + 2) (ct.fa f) fd fn fun cl S Q E => F [cl] f [.clo 0] S Q E)
    (hr : RoomG (k + 2) X.A) (tk : Takes X W) (hg : Gl X x) (hm : X.mg x = some (.ref (ct.fa f))) (hk : PySem.W.keepIn X.K (.ref (ct.fa f)) = true) (hmr : m ≠ .fr ∨ fn.fresh = true) (hdb : (x == ("__debug__" : Str)) = false)
    (TB : LamX.TabB X.base X.mg c P0) (cod : X.env.code = .ref c) (tb : (P0, X.env.qual ++ "<lambda>") ∈ ct.tb) (uq : ∀ z, (P0, z) ∈ ct.tb → z = X.env.qual ++ "<lambda>") (L : LamX.LamS X.env.scope scope) (df : defaultsOf params X.env = ([], []))
    (hbind : ∀ (q : Str) (cl : List (Str × Addr)) (pm cv ctv : Value), bindArgs (PySem.W.kla_fn "<lambda>" q params body scope cl pm cv ctv) ⟨[], []⟩ = pure [])
    (hbody : ∀ (A : Around) (outer : List PySem.Env) (s : Shared) (H : Hp) (E : XK) (f c' : Addr), RoomG k (A.deeper (LamX.lamEnv X scope s.heap.objs.size f c')) → PE (LamX.lamCx X A outer s H E scope f c') body (TE_ X.K ct (fun cls d _ H' => E cls d H') .dn (ev P F Γ xb).e)) :
    PE X (.Call (.Name x p) [.Lambda params body scope lpos] [] pos) (TE_ X.K ct W m (ev P F Γ (.lamc f xb)).e) := by
  refine ⟨fun pins s σ H Qv I ⟨U, S, ρ, Q, E, ok, sl, r, po, px⟩ => ?_⟩
  refine wpAny_Call_Name_kw (ld_glob I hg hm ?_ hdb)
  refine PySem.W.callWith_K (h₀ := X.base) I.ok.mod.kin hk ?_ (by rfl) (by rfl)
  show wpAny _ _ (spliced ((false, eval (.Lambda params body scope lpos) X.env) :: backTo pos (starEach [] X.env))) _ _ s
  refine Calls.spliced_cons (lam_make I TB cod rfl (ok.tab _ tb) df (L.has I.ok) fun fl c' pm ctv H1 s1 I1 md hf hfn hfr => ?_)
  obtain ⟨o1, st1, hc1, w1, hu1⟩ := md.ok ok tb uq
  refine Calls.spliced_nil ⟨I1.kIn, ?_⟩
  have hb := bind1 (u := .ref fl) (s := s1) (n := 0) B hnp I1.kIn
  let cl : Clo := fun args S Q E => args = [] ∧ (ev P F Γ xb).e ρ S Q E
  have r : F [cl] f [.clo 0] S Q E := r
  refine wpAny_call (codeAny_mono (TG X.A X.stack s1 H1 ⟨[.ref fl], []⟩ fl c' (X.env.qual ++ "<lambda>") U S cl Q E Qv (fun cls d H' => W cls d σ H') hr I1.env0 hb (o1.up hnone) r (fun v d U2 S2 H2 s2 o2 md q => ?_) (fun cls da x U2 S2 H2 s2 o2 xn q => ?_) hu1 hc1 (fun pn xe W' i n p1 p2 tk' hN hv hd hcd => ⟨fun pinsZ sZ σZ HZ Qv' IZ h => ?_⟩)) fun r s' hq => ?_)
  · have nS := o2.noX rfl
    exact po v d U2 S2 H2 (st1.trans o1 s2) (o2.down nS) ((moR_ok (md.down (md.noX rfl) nS) hmr).back st1 o1) q
  · exact px cls da x U2 S2 H2 (st1.trans o1 s2) (o2.down (o2.noX rfl)) (xn.down (xn.noX rfl)) q
  · -- the closure's call
    obtain ⟨U2, S2, ρ2, Q2, E2, b2, hclo, hcl, po2, px2⟩ := h
    obtain ⟨v, hs, hvn⟩ := b2.sl.get i _ hclo
    obtain ⟨rfl, hcZ⟩ : v = .ref fl ∧ HZ c' = some (LamX.CodeO c' (X.env.qual ++ "<lambda>")) := by
      cases hvn with
      | of h => nomatch h
      | clo e k1 k2 =>
        have e : some (fl, c', X.env.qual ++ "<lambda>") = some (_, _, _) := e
        cases e
        exact ⟨rfl, k2⟩
    refine wpAny_Call_Name_kw (thn ((pe_var (pos := p1) (i := i) hN hv hd hcd).run pinsZ sZ σZ HZ (fun v H1 => v = .ref fl ∧ H1 = HZ) IZ ⟨.ref fl, hs, rfl, rfl⟩) fun u s2 ⟨v, H2, I2, r2, q2⟩ => ?_)
    obtain ⟨ev_, eH⟩ := q2
    subst ev_
    rw [eH] at I2
    obtain rfl : u = Value.ref fl := r2
    have of1 : s2.heap.get? fl = some (PySem.W.kla_obj "<lambda>" (X.env.qual ++ "<lambda>") params body scope (cloFrom X.env.cells scope.names []) pm c' ctv) := I2.base.keep fl _ hf hfn hfr (fun z => nomatch (show fl ∈ ([] : List Addr) from z))
    refine PySem.W.callWith_F0 ⟨_, _, _, _, of1⟩ ?_
    have un : Un (frs X.stack) [] H1 HZ s1.heap s2.heap := I2.base
    obtain ⟨⟨oc, vs, t, hoc, hdc, hvc⟩, _, _⟩ := I2.hok c' _ hcZ
    have hrZ : RoomG (k + 1) (X.A.deeper (envOfC fd.qualname fd.scope s1.heap.objs.size (ct.fa f) fd.code)) := hr.deeper _
    have rc : codeAny (model X.prog X.w) (X.A.deeper (envOfC fd.qualname fd.scope s1.heap.objs.size (ct.fa f) fd.code)) (.call (.ref fl) ⟨[], []⟩) (CR (L2.CX X.prog X.w) (envOfC fd.qualname fd.scope s1.heap.objs.size (ct.fa f) fd.code :: X.stack) X.prog X.w HZ s2 Qv' fun cls d H' => W' cls d σZ H') s2 := by
      refine PySem.W.kla_callFunE hrZ.r.depth of1 rfl L.co L.gen rfl ⟨c', oc, vs, t, rfl, hoc, hdc, hvc⟩ ?_
      rw [hbind]
      refine wpAny_pure (wpAny_newFunctionEnv (fun y hy => (L.own y hy).2) (fun y hy => absurd hy (by simp)) (fun h₁ hns hsb => ⟨I2.nolimit.fresh _ hsb, ?_⟩) L.kind)
      show codeAny _ _ (.expr body (LamX.lamEnv X scope s2.heap.objs.size fl c')) _ _
      have kp : ∀ b o, s2.heap.get? b = some o → h₁.get? b = some o := fun b o e => hsb.extBut b o (Nat.ne_of_lt (Heap.lt_size e)) (Heap.get?_push_of_some _ e)
      have J : Inv (LamX.lamCx X (X.A.deeper (envOfC fd.qualname fd.scope s1.heap.objs.size (ct.fa f) fd.code)) (envOfC fd.qualname fd.scope s1.heap.objs.size (ct.fa f) fd.code :: X.stack) s2 HZ (fun cls d H' => W' cls d σZ H') scope fl c') [] σ HZ { s2 with heap := h₁, toks := s2.toks + ([] : List (Str × Value)).length } :=
        LamX.lam_start2 I1 L I2.env0 hrZ.r.hd un hns kp
      refine PySem.W.kla_codeExpr (wpAny_mono ((hbody _ _ s2 HZ (fun cls d H' => W' cls d σZ H') fl c' (hrZ.deeper _)).run [] _ _ HZ Qv' J ⟨U2, S2, ρ, Q2, E2, b2.ok.down (b2.ok.noX rfl), (sl.stp ok st1).stp o1 b2.st, hcl.2, fun v d U3 S3 H3 s3 o3 md q => po2 v d U3 S3 H3 s3 (o3.up hnone) (Dn.up hnone (show Dn X.K ct U3 H3 v d from md)) q,
        fun cls da x U3 S3 H3 s3 o3 xn q => px2 cls da x U3 S3 H3 s3 (o3.up hnone) (xn.up hnone) q⟩) (fun v s' hq => ?_) fun e s' hq => hq)
      obtain ⟨w', H', J', rv, q⟩ := hq
      exact ⟨w', H', J'.os, J'.bare, J'.base, J'.hok, rv, q⟩
    refine wpAny_call (codeAny_mono rc fun r s' hq => ?_)
    cases r with
    | error e => exact passAt tk' σZ pinsZ HZ s2 e s' I2 hq
    | ok fl =>
      cases fl with
      | ret u => exact I2.after hq
      | next => exact False.elim hq
      | brk => exact False.elim hq
      | cont => exact False.elim hq
  · cases r with
    | error e => exact passAt tk σ pins H1 s1 e s' I1 hq
    | ok fl =>
      cases fl with
      | ret u => exact I1.after hq
      | next => exact False.elim hq
      | brk => exact False.elim hq
      | cont => exact False.elim hq
end
end Sb
set_option linter.all false
set_option maxRecDepth 100000
set_option maxHeartbeats 1000000
set_option autoImplicit false
/-! AV: dicts that are written down, upper, return of a choice. -/
namespace Sb
open PySem PySem.Spec PyProof.Rows L2
section
variable {X : Cx} {ct : CT} {W : WX} {m : Mo} {P : Prog} {F : Fsem} {Γ : List Clo} {fresh : Bool} {U0 : Um} {H0 : Hp}
theorem x_sd0 {pos : Pos} (hm : m ≠ .fr) : PE X (.Dict [] [] pos) (TE_ X.K ct W m (ev P F Γ (.sdl [])).e) :=
  PE.imp pe_dnewK fun σ H Qv ⟨U, S, ρ, Q, E, ok, sl, r, po, px⟩ => fun p hp => po _ _ U S _ (Kp.new hp).stp (ok.new hp) (.ofDn (.sd (l := []) (ok.sh hp) upd_same) hm) r
theorem x_sd1 {s : Str} {i : Int} {j1 j2 : Nat} {p1 p2 pos : Pos} (hm : m ≠ .fr) : PE X (.Dict [some (.Constant (.str s) j1 p1)] [.Constant (.int i) j2 p2] pos) (TE_ X.K ct W m (ev P F Γ (.sdl [(s, i)])).e) :=
  PE.imp (pe_disp (pps_cons pe_str pe_int pps_nil) rfl rfl (by simp) (show 1 ≤ 15 by decide)) fun σ H Qv ⟨U, S, ρ, Q, E, ok, sl, r, po, px⟩ => fun p hp => by
    refine ⟨upd_same, [(.inr s, .int i)], rfl, (show 1 ≤ 15 by decide), ?_⟩
    rw [upd_upd]
    exact po _ _ U S _ (Kp.new hp).stp (ok.new hp) (.ofDn (.sd (l := [(s, i)]) (ok.sh hp) upd_same) hm) r
theorem x_up {a : Expr} {xa : Ex} {apos pos : Pos} (hbase : attributeBase a "upper" X.env (eval a X.env) = eval a X.env) (hline : (apos.endLine == pos.line) = true) (ha : PE X a (TE_ X.K ct W .bn (ev P F Γ xa).e)) :
    PE X (.Call (.Attribute a "upper" apos) [] [] pos) (TE_ X.K ct W m (ev P F Γ (.up xa)).e) :=
  PE.imp (pe_upper ha hbase hline) fun σ H Qv ⟨U, S, ρ, Q, E, ok, sl, r, po, px⟩ => ⟨U, S, ρ, _, E, ok, sl, r, fun v d U1 S1 H1 s1 o1 m1 q1 => by
    cases d with
    | str z =>
      have b1 : Bn X.K ct U1 H1 v (.str z) := m1
      cases b1.str
      exact ⟨⟨z, rfl⟩, z, rfl, rfl, q1.1, po _ _ U1 S1 H1 s1 o1 (.flat (.str _) fun _ e => nomatch e) q1.2⟩
    | _ => exact q1.elim, px⟩
/-- what is returned -/
structure PR (X : Cx) (e : Expr) (t : TS) : Prop where
  run : ∀ (pins : List (Addr × Obj)) (s : Shared) (σ : L2.St) (H : Hp) (D : Ends), Inv X pins σ H s → t D σ H → wpAny (model X.prog X.w) X.A (eval e X.env) (fun u s' => ∃ v σ' H', Inv X pins σ' H' s' ∧ L2.RelV v u ∧ D.rt v H') X.xe s
theorem PR.imp {e : Expr} {t t' : TS} (h : PR X e t) (i : ∀ D σ H, t' D σ H → t D σ H) : PR X e t' := ⟨fun pins s σ H D I q => h.run pins s σ H D I (i D σ H q)⟩
theorem pr_of {e : Expr} {te : TE} (h : PE X e te) : PR X e (fun D σ H => te σ H D.rt) := ⟨fun pins s σ H D I q => thn (h.run pins s σ H _ I q) fun u s1 ⟨v, H1, I1, r1, q1⟩ => ⟨v, σ, H1, I1, r1, q1⟩⟩
theorem pr_if {c a b : Expr} {pos : Pos} {tc : TT} {t u : TS} (hc : PT X c tc) (ha : PR X a t) (hb : PR X b u) : PR X (.IfExp c a b pos) (tIfS tc t u) := ⟨fun pins s σ H D I q =>
  wpAny_IfExp (thn (hc.run pins s σ H _ I q) fun d s1 ⟨H1, I1, q1⟩ => by
    cases d with
    | true => exact ha.run pins s1 σ H1 D I1 q1
    | false => exact hb.run pins s1 σ H1 D I1 q1)⟩
theorem ps_retR {e : Expr} {pos : Pos} {t : TS} (h : PR X e t) : PS X (.Return (some e) pos) t := ⟨fun pins s σ H D I q => wpAny_Return_some (h.run pins s σ H D I q)⟩
theorem r_ret {a : Expr} {xa : Ex} (he : PE X a (TE_ X.K ct W (moR fresh) (ev P F Γ xa).e)) : PR X a (TS_ X.K ct fresh W U0 H0 (evS P F Γ (.ret xa))) :=
  PR.imp (pr_of he) fun D σ H ⟨U, S, ρ, Kk, b, r, k⟩ => ⟨U, S, ρ, _, _, b.ok, b.sl, r, fun v d U1 S1 H1 s1 o1 m1 q1 => k.rt v d U1 S1 H1 (b.st.trans b.ok s1) o1 (m1.back b.st b.ok) q1, k.px b⟩
theorem r_retv {i : Nat} {n : Str} {p : Pos} (hN : X.N[i]? = some n) (hv : Vis X.env.scope n) (hd : (n == ("__debug__" : Str)) = false) (hcd : (n == ("__classdict__" : Str)) = false) : PR X (.Name n p) (TS_ X.K ct fresh W U0 H0 (evS P F Γ (.retv i))) :=
  PR.imp (pr_of (pe_var hN hv hd hcd)) fun D σ H ⟨U, S, ρ, Kk, b, r, k⟩ => by
    have r : (match ρ[i]? with | some (some (.own xs)) => Kk.rt (.lst xs) S | _ => False) := r
    split at r
    · rename_i xs e
      obtain ⟨v, h1, h2⟩ := b.sl.get i _ e
      refine ⟨v, h1, ?_⟩
      cases h2 with
      | of h => nomatch h
      | @own q vs ds k1 k2 k3 =>
        have h0 := b.so.new i q _ e h1
        exact k.rt _ _ (U.set q .sh) S H (b.st.setNew h0) (b.ok.rek (.inl k1) (by decide)) (.ofFr (.give b.ok (.inl k1) h0 k2 k3)) r
    · exact r.elim
theorem r_ite {a b c : Expr} {pos : Pos} {xa : Ex} {sa sb : Sx} (hc : PT X c (TT_ X.K ct W (ev P F Γ xa).t)) (h1 : PR X a (TS_ X.K ct fresh W U0 H0 (evS P F Γ sa))) (h2 : PR X b (TS_ X.K ct fresh W U0 H0 (evS P F Γ sb))) : PR X (.IfExp c a b pos) (TS_ X.K ct fresh W U0 H0 (evS P F Γ (.ite xa sa sb))) :=
  PR.imp (pr_if hc h1 h2) fun D σ H ⟨U, S, ρ, Kk, b, r, k⟩ => ⟨U, S, ρ, _, _, b.ok, b.sl, r, fun c U1 S1 H1 s1 o1 q1 => by
    cases c with
    | true => exact ⟨U1, S1, ρ, Kk, b.stp s1 o1, q1, k.from (s1.sh b.ok)⟩
    | false => exact ⟨U1, S1, ρ, Kk, b.stp s1 o1, q1, k.from (s1.sh b.ok)⟩, k.px b⟩
end
end Sb
set_option linter.all false
set_option maxRecDepth 20000
set_option maxHeartbeats 1000000
set_option autoImplicit false
/-! A20: the check of an expression against its tree. -/
namespace Sb
open PySem PySem.Spec PyProof.Rows L2
/-- the parameters of a lambda -/
def lamPB (params : Arguments) (ps : List Str) : Bool := params.posonlyargs.isEmpty && (decide (params.args.map (·.arg) = ps) && (params.vararg.isNone && (params.kwonlyargs.isEmpty && (params.kwarg.isNone && (params.kw_defaults.isEmpty && params.defaults.isEmpty)))))
theorem lamPB_ok {params : Arguments} {ps : List Str} (h : lamPB params ps = true) : (∀ {name qual : Str} {body : Expr} {scope : Scope} {cl : List (Str × Addr)} {pm cdv ctv : Value}, Par (PySem.W.kla_fn name qual params body scope cl pm cdv ctv) ps) ∧ ∀ env, defaultsOf params env = ([], []) := by
  obtain ⟨p1, p2, p3, p4, p5, p6, p7⟩ := params
  simp only [lamPB, Bool.and_eq_true, decide_eq_true_eq, List.isEmpty_iff, Option.isNone_iff_eq_none] at h
  obtain ⟨rfl, h2, rfl, rfl, rfl, rfl, rfl⟩ := h
  exact ⟨⟨rfl, h2, rfl, rfl, rfl⟩, fun _ => rfl⟩
/-- the tables of a program -/
structure Sc where
  N : List Str
  fns : List (Str × Nat)
  kls : List (Str × Nat)
  cons : List (Str × Nat)
  ats : List Str
  pat : List (Nat × Nat × List Str × List Nat)
  P : Prog
  /-- the def makes lambdas -/
  lam : Bool := false
  /-- the def calls the closure that it got -/
  clo : Bool := false
  /-- isinstance of a handled exception: the classes for which it is true -/
  xts : List (Option Nat × Str × List Nat) := []
  /-- except clauses: the classes that they take -/
  xms : List (List Nat × List Nat) := []
  /-- classes that are raised -/
  xrs : List Nat := []
  /-- classmethods: the class, the name, the def -/
  cms : List (Nat × Str × Nat) := []
/-- the names as seen here; the block's own -/
structure Vw where
  sc : Scope
  own : Scope
  /-- lambdas may be made here -/
  tb : Bool := true
  /-- an exception is handled -/
  hot : Bool := false
def visB (sc : Scope) (n : Str) : Bool := match sc.names.lookup n with
  | some .local => true | some .cell => true | some .free => true | _ => false
def locB (sc : Scope) (n : Str) : Bool := match sc.names.lookup n with
  | some .local => true | some .cell => true | _ => false
def globB (vw : Vw) (n : Str) : Bool := decide (vw.sc.names.lookup n = some .globalImplicit) && !(n == ("__debug__" : Str))
def slotB (G : Sc) (vw : Vw) (i : Nat) (n : Str) : Bool := decide (G.N[i]? = some n) && (visB vw.sc n && (!(n == ("__debug__" : Str)) && !(n == ("__classdict__" : Str))))
def tgtB (G : Sc) (vw : Vw) (i : Nat) (n : Str) : Bool := decide (G.N[i]? = some n) && locB vw.own n
def notStar : Expr → Bool | .Starred _ _ => false | _ => true
def baseOk : Expr → Bool | .Call (.Name _ _) [] [] _ => false | _ => true
def plainT : Expr → Bool | .UnaryOp .Not _ _ => false | .BoolOp _ _ _ => false | .IfExp _ _ _ _ => false | .Compare _ _ _ _ => false | _ => true
def notSlice : Expr → Bool | .Slice _ _ none _ => false | _ => true
def notSet : Expr → Bool | .Set _ _ _ => false | _ => true
theorem starEach_cons {e : Expr} {es : List Expr} {env : PySem.Env} (h : notStar e = true) : starEach (e :: es) env = (false, eval e env) :: starEach es env := by
  cases e <;> first | rfl | (simp [notStar] at h)
theorem starEach_any {env : PySem.Env} {pos : Pos} : ∀ {es : List Expr}, es.all notStar = true → (backTo pos (starEach es env)).any (·.1) = false
  | [], _ => rfl
  | e :: es, h => by
    rw [List.all_cons, Bool.and_eq_true] at h
    rw [starEach_cons h.1]
    show (false || (backTo pos (starEach es env)).any (·.1)) = false
    rw [starEach_any h.2]; rfl
theorem base_ok {e : Expr} {f : Str} {env : PySem.Env} (h : baseOk e = true) : attributeBase e f env (eval e env) = eval e env := by
  cases e with
  | Call fn args kws pos =>
    cases fn with
    | Name id p =>
      cases args with
      | nil =>
        cases kws with
        | nil => simp [baseOk] at h
        | cons _ _ => rfl
      | cons _ _ => rfl
    | _ => rfl
  | _ => rfl
theorem plainT_ok {e : Expr} {env : PySem.Env} (h : plainT e = true) (whole : Sem Value) : isTrue e env whole = (do let v ← whole; standAt e.pos; holding [v] (truthy v)) := by
  cases e with
  | UnaryOp op _ _ => cases op <;> first | rfl | (simp [plainT] at h)
  | BoolOp _ _ _ => simp [plainT] at h
  | IfExp _ _ _ _ => simp [plainT] at h
  | Compare _ _ _ _ => simp [plainT] at h
  | _ => rfl
theorem notSlice_ok {b : Expr} (h : notSlice b = true) : PlainIx b := fun o i => by
  cases b with
  | Slice l u s p =>
    cases s with
    | none => simp [notSlice] at h
    | some _ => rfl
  | _ => rfl
theorem notSet_ok {e : Expr} {env : PySem.Env} (h : notSet e = true) (x : Value) : foldedSetIterable e env x = pure x := by
  cases e <;> first | rfl | (simp [notSet] at h)
def kwN : Keyword → Option Str | ⟨n, _, _⟩ => n
def kwV : Keyword → Expr | ⟨_, v, _⟩ => v
theorem kw_isSome {env : PySem.Env} {pos : Pos} : ∀ {kws : List Keyword}, kws.all (fun k => (kwN k).isSome) = true → (backToKw pos (keywordEach kws env)).all (·.1.isSome) = true ∧ (backToKw pos (keywordEach kws env)).any (·.1.isNone) = false ∧ (backToKw pos (keywordEach kws env)).filterMap (·.1) = kws.filterMap kwN
  | [], _ => ⟨rfl, rfl, rfl⟩
  | ⟨nm, v, p⟩ :: kws, h => by
    rw [List.all_cons, Bool.and_eq_true] at h
    obtain ⟨h1, h2, h3⟩ := kw_isSome (env := env) (pos := pos) h.2
    cases nm with
    | none => cases h.1
    | some n =>
      refine ⟨?_, ?_, ?_⟩
      · show (true && (backToKw pos (keywordEach kws env)).all (·.1.isSome)) = true
        rw [h1]; rfl
      · show (false || (backToKw pos (keywordEach kws env)).any (·.1.isNone)) = false
        rw [h2]; rfl
      · show n :: (backToKw pos (keywordEach kws env)).filterMap (·.1) = n :: kws.filterMap kwN
        rw [h3]
/-! ### the context -/
def biNames : List Str := ["len", "sum", "min", "max", "all", "any", "tuple", "list", "sorted", "str", "int", "bool", "abs", "divmod", "repr", "set", "dict", "range", "enumerate", "zip", "isinstance", "ValueError", "LookupError", "ArithmeticError"]
def tyIn (P : Prog) : Ty → Bool
  | .cls c => (P.cls[c]?).isSome
  | _ => true
def xtT (s : Str) : String := if s = "ValueError" then "ValueError" else if s = "LookupError" then "LookupError" else "ArithmeticError"
def xtV (ct : CT) : Option Nat → Str → V
  | some c, _ => .ref (ct.ad c)
  | none, s => .ty (xtT s)
def xtC (ct : CT) : Option Nat → Str → Value
  | some c, _ => .ref (ct.ad c)
  | none, s => .type (xtT s)
/-- the program's tables, as they stand -/
structure GF0 (K : PySem.W.Frag) (mg : Str → Option Value) (ct : CT) (G : Sc) : Prop where
  fn : ∀ x f, (x, f) ∈ G.fns → mg x = some (.ref (ct.fa f)) ∧ PySem.W.keepIn K (.ref (ct.fa f)) = true
  kl : ∀ x c, (x, c) ∈ G.kls → mg x = some (.ref (ct.ad c))
  co : ∀ x g, (x, g) ∈ G.cons → ∃ v u d, G.P.consts[g]? = some d ∧ mg x = some u ∧ RelV v u ∧ (∀ U H, Dn K ct U H v d) ∧ ∀ ds, d ≠ .lst ds
  bi : ∀ n, n ∈ biNames → mg n = none
  cf : ∀ c cl, G.P.cls[c]? = some cl → ClF K ct G.ats c cl
  kit : ∀ t (d : D), tyIn G.P t = true → isAble d = true → clsIn G.P d = true → PySem.W.kitOne K (tyU ct d) (tyC ct t) = some (tyD d t)
  pp : ∀ (c : Nat) (cl : Cl) (f n : Nat) (fn : Fn), G.P.cls[c]? = some cl → cl.at n = some (.prop f) → G.P.fns[f]? = some fn → (f, 1, [], []) ∈ G.pat ∧ fn.np = 1 ∧ fn.fresh = false
  pl : ∀ (c : Nat) (cl : Cl) (f : Nat), G.P.cls[c]? = some cl → cl.len = some f → ∃ fn, G.P.fns[f]? = some fn ∧ (f, 1, [], []) ∈ G.pat ∧ fn.np = 1 ∧ fn.fresh = false
  xi : ∀ c fs, G.P.exs.lookup c = some fs → ExcC K (ct.ad c)
  xt : ∀ kk s l, (kk, s, l) ∈ G.xts → ∀ c fs, G.P.exs.lookup c = some fs → PySem.W.kitOne K (.ref (ct.ad c)) (xtC ct kk s) = some (l.contains c)
  xa : ∀ n f c fs i, G.ats[n]? = some f → G.P.exs.lookup c = some fs → fs.idxOf? n = some i → (ct.fl c)[i]? = some f ∧ (ct.fl c).Nodup ∧ PySem.W.findIn K (.ref (ct.ad c)) f = some none ∧ XfC K (ct.ad c)
  xm : ∀ c1 c2 c3 l, ([c1, c2, c3], l) ∈ G.xms → ∀ c fs, G.P.exs.lookup c = some fs → PySem.W.exmAny K (.ref (ct.ad c)) [.ref (ct.ad c1), .ref (ct.ad c2), .ref (ct.ad c3)] = some (l.contains c)
  xr : ∀ c, c ∈ G.xrs → ∃ fI b, ExT K (ct.ad c) fI b ∧ ct.fl c = [fdN b]
  ps : ∀ (c : Nat) (cl : Cl) (f : Nat), G.P.cls[c]? = some cl → cl.str = some f → ∃ fn, G.P.fns[f]? = some fn ∧ (f, 1, [], []) ∈ G.pat ∧ fn.np = 1 ∧ fn.fresh = false
  pe : ∀ (c : Nat) (cl : Cl) (f : Nat), G.P.cls[c]? = some cl → cl.eq = some f → ∃ fn, G.P.fns[f]? = some fn ∧ (f, 2, [], []) ∈ G.pat ∧ fn.np = 2 ∧ fn.fresh = false
  ph : ∀ (c : Nat) (cl : Cl) (f : Nat), G.P.cls[c]? = some cl → cl.has = some f → ∃ fn, G.P.fns[f]? = some fn ∧ (f, 2, [], []) ∈ G.pat ∧ fn.np = 2 ∧ fn.fresh = false
  pb : ∀ (c : Nat) (cl : Cl) (f : Nat), G.P.cls[c]? = some cl → cl.tru = some f → ∃ fn, G.P.fns[f]? = some fn ∧ (f, 1, [], []) ∈ G.pat ∧ fn.np = 1 ∧ fn.fresh = false
  cm : ∀ (c : Nat) (m : Str) (f : Nat), (c, m, f) ∈ G.cms → ∃ mc pr, ClX.CRead K (ct.ad c) mc ∧ ClX.CMet K (ct.ad c) mc m pr (ct.fa f)
/-- the table of the code objects that the def makes -/
def TabX (X : Cx) (ct : CT) : Prop := ∃ c P, LamX.TabB X.base X.mg c P ∧ X.env.code = .ref c ∧ (P, X.env.qual ++ "<lambda>") ∈ ct.tb ∧ ∀ z, (P, z) ∈ ct.tb → z = X.env.qual ++ "<lambda>"
/-- the defs that ask the handled exception -/
structure FQ (X : Cx) (ct : CT) (P : Prog) (F : Fsem) (Γ : List Clo) (k : Nat) (fdm : Nat → FuncData) (pat : List (Nat × Nat × List Str × List Nat)) : Prop where
  fn : ∀ f fn, P.fns[f]? = some fn → fn.clo = false → fn.hot = true → (fn.names.take fn.np).length = fn.np ∧ FnQ X.prog X.w X.K X.mg X.base ct k (ct.fa f) (fdm f) (fn.names.take fn.np) (FSp X.K ct fn.fresh fun args S Q E => F Γ f args S Q E)
  pt : ∀ f n ks idx fn, (f, n, ks, idx) ∈ pat → P.fns[f]? = some fn → BindF X.K ct (fdm f) (fn.names.take fn.np) fn.dfl n ks idx
/-- no exception is handled -/
structure Cold (ct : CT) (G : Sc) (F : Fsem) (Γ : List Clo) (k : Nat) (fdm : Nat → FuncData) (X : Cx) (vw : Vw) : Prop where
  calm : X.calm = true
  hxn : ct.hx = none
  room : RoomG (k + 1) X.A
  room2 : RoomG (k + 2) X.A
  room3 : vw.tb = true → RoomG (k + 4) X.A
  fa : FAll X ct G.P F Γ k fdm G.pat
  tab : G.lam = true → vw.tb = true → TabX X ct
  gfw : ∀ h, GF0 X.K X.mg (ct.w h ct.cl) G
  fq : ∀ h, FQ X (ct.w h ct.cl) G.P F Γ k fdm G.pat
  told : G.lam = true → ∀ f fn, G.P.fns[f]? = some fn → fn.clo = true → ToldG X.prog X.w X.K X.mg X.base ct (k + 4) (ct.fa f) (fdm f) fn fun cl S Q E => F [cl] f [.clo 0] S Q E
/-- one is -/
structure HotX (ct : CT) (G : Sc) (F : Fsem) (Γ : List Clo) (k : Nat) (fdm : Nat → FuncData) (X : Cx) : Prop where
  hp : ∃ p c dx, HotP ct X p c dx
  room : RoomQ (k + 1) X.A
  fq : FQ X ct G.P F Γ k fdm G.pat
structure XOk (ct : CT) (G : Sc) (F : Fsem) (Γ : List Clo) (k : Nat) (fdm : Nat → FuncData) (X : Cx) (W : WX) (vw : Vw) : Prop where
  hN : X.N = G.N
  hs : X.env.scope = vw.sc
  nd : X.N.Nodup
  un : X.A.units + 65 < cLine
  gd : X.A.guards = some []
  tk : Takes X W
  tg : ∀ n, locB vw.own n = true → Loc X.env.scope n ∧ (X.fn n = true ∨ X.env.scope.names.lookup n = some .local)
  gf : GF0 X.K X.mg ct G
  cold : vw.hot = false → Cold ct G F Γ k fdm X vw
  hotp : vw.hot = true → HotX ct G F Γ k fdm X
section
variable {X : Cx} {ct : CT} {W : WX} {G : Sc} {F : Fsem} {Γ : List Clo} {k : Nat} {fdm : Nat → FuncData} {vw : Vw} {m : Mo}
theorem XOk.slot (x : XOk ct G F Γ k fdm X W vw) {i : Nat} {n : Str} (h : slotB G vw i n = true) : X.N[i]? = some n ∧ Vis X.env.scope n ∧ (n == ("__debug__" : Str)) = false ∧ (n == ("__classdict__" : Str)) = false := by
  simp only [slotB, Bool.and_eq_true, decide_eq_true_eq, Bool.not_eq_true'] at h
  obtain ⟨h1, h2, h3, h4⟩ := h
  refine ⟨by rw [x.hN]; exact h1, ?_, h3, h4⟩
  rw [x.hs]
  unfold visB at h2
  unfold Vis
  split at h2
  · exact .inl (by assumption)
  · exact .inr (.inl (by assumption))
  · exact .inr (.inr (by assumption))
  · cases h2
theorem XOk.glob (x : XOk ct G F Γ k fdm X W vw) {n : Str} (h : globB vw n = true) : Gl X n ∧ (n == ("__debug__" : Str)) = false := by
  simp only [globB, Bool.and_eq_true, decide_eq_true_eq, Bool.not_eq_true'] at h
  exact ⟨by unfold Gl Env.kindOf; rw [x.hs]; exact h.1, h.2⟩
end
end Sb
set_option linter.all false
set_option maxRecDepth 20000
set_option maxHeartbeats 2000000
set_option autoImplicit false
/-! A21: the check of expressions is right. -/
namespace Sb
open PySem PySem.Spec PyProof.Rows L2
structure CR where
  e : Vw → Mo → Expr → Bool := fun _ _ _ => false
  t : Vw → Expr → Bool := fun _ _ => false
  l : Vw → Mo → List Expr → Bool := fun _ _ _ => false
  lk : Vw → List Keyword → Bool := fun _ _ => false
  i : Vw → Bool → Expr → Expr → Bool := fun _ _ _ _ => false
  g : Vw → Bool → List Nat → Expr → Bool := fun _ _ _ _ => false
  gs : Vw → List Nat → List Expr → Bool := fun _ _ _ => false
  o : Vw → Option Expr → Bool := fun _ _ => false
def cVal (e : Vw → Mo → Expr → Bool) : CR :=
  { e := e, t := fun vw a => plainT a && e vw .bn a, i := fun vw st _ a => e vw (sm st) a, o := fun vw a => match a with
    | some a => e vw .dn a
    | none => false }
def rawOf : Ex → Bool
  | .enum _ => true | .zip _ => true | .items _ => true | _ => false
/-! what a tree must be -/
def cVar (G : Sc) (i : Nat) (vw : Vw) (m : Mo) : Expr → Bool
  | .Name n _ => slotB G vw i n && decide (m ≠ .fr)
  | _ => false
def cBvar (G : Sc) (i : Nat) (vw : Vw) (m : Mo) : Expr → Bool
  | .Name n _ => slotB G vw i n && decide (m = .bn)
  | _ => false
def cLend (G : Sc) (i : Nat) (vw : Vw) (m : Mo) : Expr → Bool
  | .Name n _ => slotB G vw i n && decide (m = .an)
  | _ => false
def cCst (c : Cst) (vw : Vw) (m : Mo) : Expr → Bool
  | .Constant (.int i) _ _ => decide (c = .int i)
  | .Constant (.bool i) _ _ => decide (c = .bool i)
  | .Constant (.str i) _ _ => decide (c = .str i)
  | .Constant .none _ _ => decide (c = .none)
  | _ => false
def cGlob (G : Sc) (g : Nat) (vw : Vw) (m : Mo) : Expr → Bool
  | .Name n _ => globB vw n && decide ((n, g) ∈ G.cons)
  | _ => false
def cBin (o : Bo) (ca cb : Vw → Mo → Expr → Bool) (vw : Vw) (m : Mo) : Expr → Bool
  | .BinOp a op b _ => decide (op = opB o) && (ca vw .bn a && cb vw .bn b)
  | _ => false
def cNeg (ca : Vw → Mo → Expr → Bool) (vw : Vw) (m : Mo) : Expr → Bool
  | .UnaryOp op a _ => decide (op = .USub) && ca vw .dn a
  | _ => false
def cNot (ca : Vw → Mo → Expr → Bool) (vw : Vw) (m : Mo) : Expr → Bool
  | .UnaryOp op a _ => decide (op = .Not) && ca vw .dn a
  | _ => false
def cNotT (ca : Vw → Expr → Bool) (vw : Vw) : Expr → Bool
  | .UnaryOp op a _ => decide (op = .Not) && ca vw a
  | _ => false
def cCmp (o : Co) (ca cb : Vw → Mo → Expr → Bool) (vw : Vw) : Expr → Bool
  | .Compare a [op] [b] _ => decide (op = opC o) && (!(behindInMarks (opC o) b) && (ca vw .bn a && cb vw .bn b))
  | _ => false
def cCmp2 (o o2 : Co) (ca cb cc : Vw → Mo → Expr → Bool) (vw : Vw) : Expr → Bool
  | .Compare a [op, op2] [b, c] _ => decide (op = opC o ∧ op2 = opC o2) && (!(lastMarks [opC o, opC o2] [b, c]) && (ca vw .bn a && (cb vw .bn b && cc vw .bn c)))
  | _ => false
def cBool (isAnd : Bool) (ca cb : Vw → Mo → Expr → Bool) (vw : Vw) (m : Mo) : Expr → Bool
  | .BoolOp op [a, b] _ => decide (op = if isAnd = true then .And else .Or) && (ca vw .dn a && cb vw m b)
  | .BoolOp op (a :: b :: c :: r) p => decide (op = if isAnd = true then .And else .Or) && (ca vw .dn a && cb vw m (.BoolOp op (b :: c :: r) p))
  | _ => false
def cBoolT (isAnd : Bool) (ca cb : Vw → Expr → Bool) (vw : Vw) : Expr → Bool
  | .BoolOp op [a, b] _ => decide (op = if isAnd = true then .And else .Or) && (ca vw a && cb vw b)
  | .BoolOp op (a :: b :: c :: r) p => decide (op = if isAnd = true then .And else .Or) && (ca vw a && cb vw (.BoolOp op (b :: c :: r) p))
  | _ => false
def cIfe (cc : Vw → Expr → Bool) (ca cb : Vw → Mo → Expr → Bool) (vw : Vw) (m : Mo) : Expr → Bool
  | .IfExp c a b _ => cc vw c && (ca vw m a && cb vw m b)
  | _ => false
def cLst (cl : Vw → Mo → List Expr → Bool) (vw : Vw) (m : Mo) : Expr → Bool
  | .List es _ => cl vw .dn es
  | _ => false
def cTup (cl : Vw → Mo → List Expr → Bool) (vw : Vw) (m : Mo) : Expr → Bool
  | .Tuple es _ _ => cl vw .dn es
  | _ => false
def cIx (ca cb : Vw → Mo → Expr → Bool) (vw : Vw) (m : Mo) : Expr → Bool
  | .Subscript a b _ => decide (m ≠ .fr) && (notSlice b && (ca vw .bn a && cb vw .dn b))
  | _ => false
def cSl (ca : Vw → Mo → Expr → Bool) (cl ch : Vw → Option Expr → Bool) (vw : Vw) (m : Mo) : Expr → Bool
  | .Subscript a (.Slice lo hi none _) _ => ca vw .bn a && (cl vw lo && ch vw hi)
  | _ => false
def cRev (ca : Vw → Mo → Expr → Bool) (vw : Vw) (m : Mo) : Expr → Bool
  | .Subscript a (.Slice none none (some (.UnaryOp .USub (.Constant (.int 1) _ _) _)) _) _ => ca vw .bn a
  | _ => false
def cAttr (G : Sc) (ca : Vw → Mo → Expr → Bool) (n : Nat) (vw : Vw) (m : Mo) : Expr → Bool
  | .Attribute a f _ => decide (m ≠ .fr) && (decide (G.ats[n]? = some f) && (baseOk a && ca vw .bn a))
  | _ => false
def cCall (G : Sc) (f : Nat) (idx : List Nat) (xnil : Bool) (ce : Vw → Mo → List Expr → Bool) (ck : Vw → List Keyword → Bool) (vw : Vw) (m : Mo) : Expr → Bool
  | .Call (.Name x _) es kws _ => match G.P.fns[f]? with
    | some fn => (globB vw x && (!vw.hot || (!fn.clo && fn.hot))) && (decide ((x, f) ∈ G.fns) && (decide ((f, es.length, kws.filterMap kwN, idx) ∈ G.pat) && (kws.all (fun k => (kwN k).isSome) && (es.all notStar && ((!es.isEmpty || xnil) && ((decide (m ≠ .fr) || fn.fresh) && (ce vw .an es && ck vw kws)))))))
    | none => false
  | _ => false
def cMk (G : Sc) (c : Nat) (idx : List Nat) (xnil : Bool) (ce : Vw → Mo → List Expr → Bool) (ck : Vw → List Keyword → Bool) (vw : Vw) (m : Mo) : Expr → Bool
  | .Call (.Name x _) es kws _ => match G.P.cls[c]? with
    | some cl => (match G.P.fns[cl.init]? with
      | some fn => globB vw x && (decide ((x, c) ∈ G.kls) && (decide ((cl.init, es.length + 1, kws.filterMap kwN, idx) ∈ G.pat) && (kws.all (fun k => (kwN k).isSome) && (es.all notStar && ((!es.isEmpty || xnil) && ((decide (m ≠ .fr) && !fn.fresh) && (ce vw .an es && ck vw kws)))))))
      | none => false)
    | none => false
  | _ => false
def biN : Bi → Str
  | .len => "len" | .sum => "sum" | .min => "min" | .max => "max" | .all => "all" | .any => "any" | .tuple => "tuple" | .list => "list" | .sorted => "sorted" | .str => "str" | .int => "int" | .bool => "bool" | .abs => "abs" | .divmod => "divmod" | .repr => "repr" | .set => "set" | .dict => "dict"
def biOk : Bi → Bool
  | .len => false | .bool => false | .set => false | .dict => false | _ => true
def calmBi : Bi → Bool
  | .sum => true | .min => true | .max => true | .all => true | .any => true | _ => false
def cBi (bi : Bi) (ce : Vw → Mo → List Expr → Bool) (vw : Vw) (m : Mo) : Expr → Bool
  | .Call (.Name x _) (e :: es) [] _ => decide (x = biN bi) && ((biOk bi && (!vw.hot || !calmBi bi)) && (globB vw x && ((e :: es).all notStar && ce vw .bn (e :: es))))
  | _ => false
def cLen (ca : Vw → Mo → Expr → Bool) (vw : Vw) (m : Mo) : Expr → Bool
  | .Call (.Name x _) [a] [] _ => decide (x = "len") && (globB vw x && (notStar a && ca vw .bn a))
  | _ => false
def cMt (mt : Mt) (ca : Vw → Mo → Expr → Bool) (ce : Vw → Mo → List Expr → Bool) (vw : Vw) (m : Mo) : Expr → Bool
  | .Call (.Attribute a f apos) (e :: es) [] cpos => decide (f = nmM mt) && (decide ((e :: es).length < 30) && (decide ((apos.endLine == cpos.line) = true) && ((e :: es).all notStar && (baseOk a && (ca vw .bn a && ce vw .bn (e :: es))))))
  | _ => false
def tyN : Ty → Option Str
  | .int => some "int" | .bool => some "bool" | .str => some "str" | .tuple => some "tuple" | .list => some "list" | .dict => some "dict" | .cls _ => none
def cIsi (G : Sc) (ts : List Ty) (ca : Vw → Mo → Expr → Bool) (vw : Vw) (m : Mo) : Expr → Bool
  | .Call (.Name x _) [a, .Name y _] [] _ => match ts with
    | [t] => decide (x = "isinstance") && (globB vw x && (globB vw y && (notStar a && ((match t with
      | .cls c => decide ((y, c) ∈ G.kls)
      | t => decide (tyN t = some y)) && (tyIn G.P t && ca vw .bn a)))))
    | _ => false
  | _ => false
def cRng1 (ca : Vw → Mo → Expr → Bool) (vw : Vw) : Expr → Bool
  | .Call (.Name x _) [a] [] _ => decide (x = "range") && (globB vw x && (notStar a && ca vw .dn a))
  | _ => false
def cRng2 (ca cb : Vw → Mo → Expr → Bool) (vw : Vw) : Expr → Bool
  | .Call (.Name x _) [a, b] [] _ => decide (x = "range") && (globB vw x && (notStar a && (notStar b && (ca vw .dn a && cb vw .dn b))))
  | _ => false
def isTup : Expr → Bool | .Tuple _ _ _ => true | _ => false
def cEnum (ca : Vw → Mo → Expr → Bool) (vw : Vw) (st : Bool) (tg : Expr) : Expr → Bool
  | .Call (.Name x _) [a] [] _ => isTup tg && (decide (x = "enumerate") && (globB vw x && (notStar a && ca vw (sm st) a)))
  | _ => false
def cZip (ce : Vw → Mo → List Expr → Bool) (vw : Vw) (st : Bool) (tg : Expr) : Expr → Bool
  | .Call (.Name x _) [a, b] [] _ => isTup tg && (decide (x = "zip") && (globB vw x && (notStar a && (notStar b && (!st && ce vw .bn [a, b])))))
  | _ => false
/-- sorted(a, key=lambda row: (len(row), row)) -/
def cSrl (G : Sc) (ca : Vw → Mo → Expr → Bool) (vw : Vw) (m : Mo) : Expr → Bool
  | .Call (.Name x _) [a] [⟨some kw, .Lambda params (.Tuple [.Call (.Name ln _) [.Name row _] [] _, .Name row2 _] _ _) scope _, _⟩] _ =>
    decide (x = "sorted" ∧ kw = "key" ∧ ln = "len" ∧ row = "row" ∧ row2 = row) && ((G.lam && vw.tb) && (globB vw x && (notStar a && (lamPB params [row] && (decide (scope.kind = .function) && (!scope.isCoroutine && (!scope.isGenerator &&
      (scope.names.all (fun y => !decide (y.2 = .cell) && !decide (y.2 = .free)) && (decide (scope.names.lookup row = some .local) && (decide (scope.names.lookup ("len" : Str) = some .globalImplicit) && (!(row == ("__debug__" : Str)) && ca vw .bn a)))))))))))
  | _ => false
def cIsx (G : Sc) (k : Option Nat) (l : List Nat) (ca : Vw → Mo → Expr → Bool) (vw : Vw) (m : Mo) : Expr → Bool
  | .Call (.Name x _) [a, .Name y _] [] _ => vw.hot && (decide (x = "isinstance") && (globB vw x && (globB vw y && (notStar a && ((match k with
      | some c => decide ((y, c) ∈ G.kls)
      | none => decide (y = "ValueError" ∨ y = "LookupError" ∨ y = "ArithmeticError")) && (decide ((k, y, l) ∈ G.xts) && ca vw .dn a))))))
  | _ => false
def cAttx (G : Sc) (ca : Vw → Mo → Expr → Bool) (n : Nat) (vw : Vw) (m : Mo) : Expr → Bool
  | .Attribute a f _ => vw.hot && (decide (m ≠ .fr) && (decide (G.ats[n]? = some f) && (baseOk a && ca vw .dn a)))
  | _ => false
def cLamc (G : Sc) (f : Nat) (cb : Vw → Mo → Expr → Bool) (vw : Vw) (m : Mo) : Expr → Bool
  | .Call (.Name x _) [.Lambda params body scope _] [] _ => match G.P.fns[f]? with
    | some fn => vw.tb && (G.lam && (fn.clo && (decide (fn.np = 1) && (globB vw x && (decide ((x, f) ∈ G.fns) && (decide ((f, 1, [], []) ∈ G.pat) && ((decide (m ≠ .fr) || fn.fresh) && (lamPB params [] && (LamX.lamSB vw.sc scope && cb { sc := scope, own := scope, tb := false } .dn body)))))))))
    | none => false
  | _ => false
def cSdl (l : List (Str × Int)) (vw : Vw) (m : Mo) : Expr → Bool
  | .Dict [] [] _ => l.isEmpty && decide (m ≠ .fr)
  | .Dict [some (.Constant (.str s) _ _)] [.Constant (.int i) _ _] _ => decide (l = [(s, i)]) && decide (m ≠ .fr)
  | _ => false
def cUp (ca : Vw → Mo → Expr → Bool) (vw : Vw) (m : Mo) : Expr → Bool
  | .Call (.Attribute a f apos) [] [] cpos => decide (f = "upper") && (decide ((apos.endLine == cpos.line) = true) && (baseOk a && ca vw .bn a))
  | _ => false
/-- where no exception is handled -/
def cold (c : Vw → Mo → Expr → Bool) (vw : Vw) (m : Mo) (e : Expr) : Bool := !vw.hot && c vw m e
def cStro (ca : Vw → Mo → Expr → Bool) (vw : Vw) (m : Mo) : Expr → Bool
  | .Call (.Name x _) [a] [] _ => decide (x = "str") && (globB vw x && (notStar a && ca vw .dn a))
  | _ => false
def cEqo (ne : Bool) (ca cb : Vw → Mo → Expr → Bool) (vw : Vw) : Expr → Bool
  | .Compare a [op] [b] _ => !vw.hot && (decide (op = eqOp ne) && (!(behindInMarks (eqOp ne) b) && (ca vw .dn a && cb vw .dn b)))
  | _ => false
def cIno (ng : Bool) (ca cb : Vw → Mo → Expr → Bool) (vw : Vw) : Expr → Bool
  | .Compare a [op] [b] _ => !vw.hot && (decide (op = inOp ng) && (!(behindInMarks (inOp ng) b) && (ca vw .dn a && cb vw .dn b)))
  | _ => false
def cBoolo (ca : Vw → Mo → Expr → Bool) (vw : Vw) (m : Mo) : Expr → Bool
  | .Call (.Name x _) [a] [] _ => decide (x = "bool") && (globB vw x && (notStar a && ca vw .dn a))
  | _ => false
def cMkv (G : Sc) (c i : Nat) (xnil : Bool) (ce : Vw → Mo → List Expr → Bool) (vw : Vw) (m : Mo) : Expr → Bool
  | .Call (.Name n _) es [] _ => match G.P.cls[c]? with
    | some cl => (match G.P.fns[cl.init]? with
      | some fn => slotB G vw i n && (decide ((cl.init, es.length + 1, [], []) ∈ G.pat) && (es.all notStar && ((!es.isEmpty || xnil) && ((decide (m ≠ .fr) && !fn.fresh) && ce vw .an es))))
      | none => false)
    | none => false
  | _ => false
def cCmt (G : Sc) (c f : Nat) (knil : Bool) (ks : List Nat) (ce : Vw → Mo → List Expr → Bool) (xnil : Bool) (ck : Vw → List Keyword → Bool) (vw : Vw) (m : Mo) : Expr → Bool
  | .Call (.Attribute (.Name x _) mth apos) (e :: es) [] cpos => match G.P.fns[f]? with
    | some fn => globB vw x && (decide ((x, c) ∈ G.kls) && (decide ((c, mth, f) ∈ G.cms) && (decide ((f, es.length + 2, [], []) ∈ G.pat) && (decide (fn.np = es.length + 2) && (decide ((e :: es).length < 30) && (decide ((apos.endLine == cpos.line) = true) &&
      ((e :: es).all notStar && ((decide (m ≠ .fr) && decide (ks = [])) && (knil && ce vw .an (e :: es))))))))))
    | none => false
  | .Call (.Attribute (.Name x _) mth apos) [] kws cpos => match G.P.fns[f]? with
    | some _ => globB vw x && (decide ((x, c) ∈ G.kls) && (decide ((c, mth, f) ∈ G.cms) && (decide ((f, 1, kws.filterMap kwN, ks) ∈ G.pat) && (kws.all (fun k => (kwN k).isSome) && (decide (kws.length < 20) && (decide ((apos.endLine == cpos.line) = true) &&
      (decide (m ≠ .fr) && (xnil && ck vw kws))))))))
    | none => false
  | _ => false
def cLstar (ca cb : Vw → Mo → Expr → Bool) (vw : Vw) (m : Mo) : Expr → Bool
  | .List [a, .Starred b _] _ => notStar a && (ca vw .dn a && cb vw .bn b)
  | _ => false
def isYes : Ex → Bool | .yes => true | _ => false
def ownP (N : List Str) (own : List Nat) : List (Str × Nat) := own.map fun i => ((N[i]?).getD Str.empty, i)
def blkB (N : List Str) (sc scope : Scope) (own : List Nat) : Bool :=
  decide (scope.kind = .function) && (scope.names.all (fun y => decide (scope.names.lookup y.1 = some y.2)) && (own.all (fun i => (N[i]?).isSome) &&
  (scope.names.all (fun y => !(decide (y.2 = .free)) || (decide (sc.names.lookup y.1 = some .cell) || decide (sc.names.lookup y.1 = some .free))) &&
   scope.names.all (fun y => !(decide (y.2 = .local) || decide (y.2 = .cell)) || (decide (y.1 ∈ (ownP N own).map (·.1)) || decide (y.1 ∉ N))))))
def inV (vw : Vw) (scope : Scope) : Vw := ⟨relS scope vw.sc, scope, vw.tb, vw.hot⟩
def cIfs (yes : Bool) (cc : Vw → Expr → Bool) (vw : Vw) : List Expr → Bool
  | [] => yes
  | [c] => cc vw c
  | _ => false
def cComp (G : Sc) (own : List Nat) (raw yes : Bool) (cg : Vw → Bool → List Nat → Expr → Bool) (ci : Vw → Bool → Expr → Expr → Bool) (cc : Vw → Expr → Bool) (ce : Vw → Mo → Expr → Bool) (vw : Vw) (m : Mo) : Expr → Bool
  | .ListComp elt [⟨tg, iter, ifs, 0⟩] scope _ => blkB G.N vw.sc scope own && (notSet iter && (ci vw false tg iter && (cg (inV vw scope) raw own tg && (cIfs yes cc (inV vw scope) ifs && ce (inV vw scope) .dn elt))))
  | _ => false
def cComp2 (G : Sc) (own own2 : List Nat) (raw yes raw2 yes2 : Bool) (cg cg2 : Vw → Bool → List Nat → Expr → Bool) (ci ci2 : Vw → Bool → Expr → Expr → Bool) (cc cc2 : Vw → Expr → Bool) (ce : Vw → Mo → Expr → Bool) (vw : Vw) (m : Mo) : Expr → Bool
  | .ListComp elt [⟨tg, iter, ifs, 0⟩, ⟨tg2, iter2, ifs2, 0⟩] scope _ => blkB G.N vw.sc scope own && (own2.all (fun i => decide (i ∈ own)) && (notSet iter && (notSet iter2 && (ci vw false tg iter && (cg (inV vw scope) raw own tg && (cIfs yes cc (inV vw scope) ifs &&
    (ci2 (inV vw scope) false tg2 iter2 && (cg2 (inV vw scope) raw2 own2 tg2 && (cIfs yes2 cc2 (inV vw scope) ifs2 && ce (inV vw scope) .dn elt)))))))))
  | _ => false
def gVar (G : Sc) (i : Nat) (vw : Vw) (raw : Bool) (own : List Nat) : Expr → Bool
  | .Name n _ => !raw && (tgtB G vw i n && decide (i ∈ own))
  | _ => false
def gTup (cs : Vw → List Nat → List Expr → Bool) (vw : Vw) (raw : Bool) (own : List Nat) : Expr → Bool
  | .Tuple es _ _ => !vw.hot && cs vw own es
  | _ => false
def simpT : Expr → Bool | .Name _ _ => true | .Tuple _ _ _ => true | .Subscript _ _ _ => true | _ => false
def isNil : Ex → Bool | .nil => true | _ => false
def chk (G : Sc) : Ex → CR
  | .nil => { l := fun _ m es => es.isEmpty && decide (m ≠ .fr), lk := fun _ ks => ks.isEmpty, gs := fun _ _ es => es.isEmpty, o := fun _ a => a.isNone }
  | .cons a r =>
    { l := fun vw m es => match es with
        | e :: es => decide (m ≠ .fr) && (notStar e && ((chk G a).e vw m e && (chk G r).l vw m es))
        | [] => false
      lk := fun vw ks => match ks with
        | k :: ks => (chk G a).e vw .an (kwV k) && (chk G r).lk vw ks
        | [] => false
      gs := fun vw own es => match es with
        | e :: es => simpT e && ((chk G a).g vw false own e && (chk G r).gs vw own es)
        | [] => false }
  | .cst c => cVal (cCst c)
  | .var i => { cVal (cVar G i) with g := gVar G i }
  | .bvar i => cVal (cBvar G i)
  | .lend i => cVal (cLend G i)
  | .mkown a => cVal fun vw m e => decide (m = .ow) && (chk G a).e vw .fr e
  | .box a => cVal fun vw m e => decide (m ≠ .fr) && (chk G a).e vw .fr e
  | .glob g => cVal (cGlob G g)
  | .srl a => cVal (cold (cSrl G (chk G a).e))
  | .bin o a b => cVal (cBin o (chk G a).e (chk G b).e)
  | .neg a => cVal (cNeg (chk G a).e)
  | .cmp o a b => { cVal (fun vw _ e => cCmp o (chk G a).e (chk G b).e vw e) with t := cCmp o (chk G a).e (chk G b).e }
  | .cmp2 o o2 a b c => { cVal (fun vw _ e => cCmp2 o o2 (chk G a).e (chk G b).e (chk G c).e vw e) with t := cCmp2 o o2 (chk G a).e (chk G b).e (chk G c).e }
  | .and a b => { cVal (cBool true (chk G a).e (chk G b).e) with t := cBoolT true (chk G a).t (chk G b).t }
  | .or a b => { cVal (cBool false (chk G a).e (chk G b).e) with t := cBoolT false (chk G a).t (chk G b).t }
  | .not a => { cVal (cNot (chk G a).e) with t := cNotT (chk G a).t }
  | .ife c a b => cVal (cIfe (chk G c).t (chk G a).e (chk G b).e)
  | .lst es => cVal (cLst (chk G es).l)
  | .tup es => { cVal (cTup (chk G es).l) with g := gTup (chk G es).gs }
  | .ix a b => cVal (cIx (chk G a).e (chk G b).e)
  | .sl a l h => cVal (cSl (chk G a).e (chk G l).o (chk G h).o)
  | .rev a => cVal (cRev (chk G a).e)
  | .attr a n => cVal (cold (cAttr G (chk G a).e n))
  | .call f es kes idx => cVal (cCall G f idx (isNil es) (chk G es).l (chk G kes).lk)
  | .mk c es kes idx => cVal (cold (cMk G c idx (isNil es) (chk G es).l (chk G kes).lk))
  | .bi .len (.cons a .nil) => cVal (cold (cLen (chk G a).e))
  | .bi b es => cVal (cBi b (chk G es).l)
  | .mt mt a es => cVal (cMt mt (chk G a).e (chk G es).l)
  | .isi a ts => cVal (cIsi G ts (chk G a).e)
  | .comp t it c e own => cVal (cold (cComp G own (rawOf it) (isYes c) (chk G t).g (chk G it).i (chk G c).t (chk G e).e))
  | .comp2 t it c t2 it2 c2 e own own2 => cVal (cold (cComp2 G own own2 (rawOf it) (isYes c) (rawOf it2) (isYes c2) (chk G t).g (chk G t2).g (chk G it).i (chk G it2).i (chk G c).t (chk G c2).t (chk G e).e))
  | .isx a k _ l => cVal (cIsx G k l (chk G a).e)
  | .attx a n => cVal (cAttx G (chk G a).e n)
  | .lamc f e => cVal (cold (cLamc G f (chk G e).e))
  | .sdl l => cVal (cSdl l)
  | .up a => cVal (cUp (chk G a).e)
  | .inso ng a b => { cVal (fun vw _ e => cIno ng (chk G a).e (chk G b).e vw e) with t := cIno ng (chk G a).e (chk G b).e }
  | .boolo a => cVal (cold (cBoolo (chk G a).e))
  | .stro a => cVal (cold (cStro (chk G a).e))
  | .eqo ne a b => { cVal (fun vw _ e => cEqo ne (chk G a).e (chk G b).e vw e) with t := cEqo ne (chk G a).e (chk G b).e }
  | .mkv c i es => cVal (cold (cMkv G c i (isNil es) (chk G es).l))
  | .cmt c f es kes ks => cVal (cold (cCmt G c f (isNil kes) ks (chk G es).l (isNil es) (chk G kes).lk))
  | .lstar (.cons a .nil) b => cVal (cLstar (chk G a).e (chk G b).e)
  | .rng1 a => { i := fun vw _ _ e => cRng1 (chk G a).e vw e }
  | .rng2 a b => { i := fun vw _ _ e => cRng2 (chk G a).e (chk G b).e vw e }
  | .enum a => { i := cEnum (chk G a).e }
  | .zip es => { i := cZip (chk G es).l }
  | _ => {}
end Sb
set_option linter.all false
set_option maxRecDepth 20000
set_option maxHeartbeats 2000000
set_option autoImplicit false
/-! A22: the check of expressions is right. -/
namespace Sb
open PySem PySem.Spec PyProof.Rows L2
section
variable {ct : CT} {G : Sc} {F : Fsem} {Γ : List Clo} {k : Nat} {fdm : Nat → FuncData}
structure CSound (ct : CT) (G : Sc) (F : Fsem) (Γ : List Clo) (k : Nat) (fdm : Nat → FuncData) (x : Ex) : Prop where
  e : ∀ X W vw m a, XOk ct G F Γ k fdm X W vw → (chk G x).e vw m a = true → PE X a (TE_ X.K ct W m (ev G.P F Γ x).e)
  t : ∀ X W vw a, XOk ct G F Γ k fdm X W vw → (chk G x).t vw a = true → PT X a (TT_ X.K ct W (ev G.P F Γ x).t)
  l : ∀ X W vw m es, XOk ct G F Γ k fdm X W vw → (chk G x).l vw m es = true → PA X es (TA_ X.K ct W m es.length (ev G.P F Γ x).l)
  lk : ∀ X W vw ks, XOk ct G F Γ k fdm X W vw → (chk G x).lk vw ks = true → PK X ks (TA_ X.K ct W .an ks.length (ev G.P F Γ x).l)
  i : ∀ X W vw st tg a, XOk ct G F Γ k fdm X W vw → (chk G x).i vw st tg a = true → PI X tg a (TI_ X.K ct W st (rawOf x) (ev G.P F Γ x).i)
  g : ∀ X W vw raw own a, XOk ct G F Γ k fdm X W vw → (chk G x).g vw raw own a = true → PG X a (TGc X.K ct raw own (ev G.P F Γ x).g)
  gs : ∀ X W vw own es, XOk ct G F Γ k fdm X W vw → (chk G x).gs vw own es = true → PGs X es (TGsc X.K ct own (ev G.P F Γ x).gs)
  gl : ∀ vw own es, (chk G x).gs vw own es = true → exLen x = es.length ∧ ∀ env, (assignEach es env).length = es.length ∧ (assignEach es env).findIdx? (·.1) = none
  o : ∀ X W vw a, XOk ct G F Γ k fdm X W vw → (chk G x).o vw a = true → PO X a (TO_ X.K ct W (ev G.P F Γ x).o)
theorem loc_of {scope : Scope} {n : Str} (hn : locB scope n = true) : Loc scope n := by
  unfold locB at hn
  split at hn
  · exact .inl (by assumption)
  · exact .inr (by assumption)
  · cases hn
/-- an expression with a value, and nothing else -/
theorem val_sound {x : Ex} {c : Vw → Mo → Expr → Bool} (hx : x ≠ .nil) (hch : chk G x = cVal c) (ht : (ev G.P F Γ x).t = fun ρ S Q E => (ev G.P F Γ x).e ρ S (fun d S => truX G.P F Γ d S Q E) E) (hi : (ev G.P F Γ x).i = fun ρ S Q E => (ev G.P F Γ x).e ρ S (fun d S => itemsD d fun xs => Q xs S) E)
    (he : ∀ X W vw m a, XOk ct G F Γ k fdm X W vw → c vw m a = true → PE X a (TE_ X.K ct W m (ev G.P F Γ x).e)) : CSound ct G F Γ k fdm x := by
  refine ⟨fun X W vw m a xo h => ?_, fun X W vw a xo h => ?_, fun X W vw m es xo h => ?_, fun X W vw ks xo h => ?_, fun X W vw st tg a xo h => ?_, fun X W vw raw own a xo h => ?_, fun X W vw own es xo h => ?_, fun vw own es h => ?_, fun X W vw a xo h => ?_⟩ <;> rw [hch] at h
  · exact he X W vw m a xo h
  · have h : (plainT a && c vw .bn a) = true := h
    rw [Bool.and_eq_true] at h
    exact t_val (plainT_ok h.1) ht (he X W vw .bn a xo h.2)
  · cases h
  · cases h
  · exact i_val hi (he X W vw (sm st) a xo h)
  · cases h
  · cases h
  · cases h
  · cases a with
    | none => cases h
    | some a => exact o_some hx (he X W vw .dn a xo h)
variable {X : Cx} {W : WX} {vw : Vw} {m : Mo}
theorem XOk.bi_none (x : XOk ct G F Γ k fdm X W vw) {n : Str} (h : n ∈ biNames) : X.mg n = none := x.gf.bi n h
theorem cVar_ok {i : Nat} {a : Expr} (xo : XOk ct G F Γ k fdm X W vw) (h : cVar G i vw m a = true) : PE X a (TE_ X.K ct W m (ev G.P F Γ (.var i)).e) := by
  cases a with
  | Name n p =>
    simp only [cVar, Bool.and_eq_true, decide_eq_true_eq] at h
    obtain ⟨h1, h2, h3, h4⟩ := xo.slot h.1
    exact x_var h.2 h1 h2 h3 h4
  | _ => simp [cVar] at h
theorem cBvar_ok {i : Nat} {a : Expr} (xo : XOk ct G F Γ k fdm X W vw) (h : cBvar G i vw m a = true) : PE X a (TE_ X.K ct W m (ev G.P F Γ (.bvar i)).e) := by
  cases a with
  | Name n p =>
    simp only [cBvar, Bool.and_eq_true, decide_eq_true_eq] at h
    obtain ⟨h1, h2, h3, h4⟩ := xo.slot h.1
    obtain ⟨_, rfl⟩ := h
    exact x_bvar h1 h2 h3 h4
  | _ => simp [cBvar] at h
theorem cLend_ok {i : Nat} {a : Expr} (xo : XOk ct G F Γ k fdm X W vw) (h : cLend G i vw m a = true) : PE X a (TE_ X.K ct W m (ev G.P F Γ (.lend i)).e) := by
  cases a with
  | Name n p =>
    simp only [cLend, Bool.and_eq_true, decide_eq_true_eq] at h
    obtain ⟨h1, h2, h3, h4⟩ := xo.slot h.1
    obtain ⟨_, rfl⟩ := h
    exact x_lend h1 h2 h3 h4
  | _ => simp [cLend] at h
theorem cCst_ok {c : Cst} {a : Expr} (h : cCst c vw m a = true) : PE X a (TE_ X.K ct W m (ev G.P F Γ (.cst c)).e) := by
  cases a with
  | Constant v kk p =>
    cases v with
    | none => simp only [cCst, decide_eq_true_eq] at h; subst h; exact x_non
    | bool b => simp only [cCst, decide_eq_true_eq] at h; subst h; exact x_bl
    | int i => simp only [cCst, decide_eq_true_eq] at h; subst h; exact x_int
    | str z => simp only [cCst, decide_eq_true_eq] at h; subst h; exact x_str
    | _ => simp [cCst] at h
  | _ => simp [cCst] at h
theorem cGlob_ok {g : Nat} {a : Expr} (xo : XOk ct G F Γ k fdm X W vw) (h : cGlob G g vw m a = true) : PE X a (TE_ X.K ct W m (ev G.P F Γ (.glob g)).e) := by
  cases a with
  | Name n p =>
    simp only [cGlob, Bool.and_eq_true, decide_eq_true_eq] at h
    obtain ⟨v, u, d, h1, h2, h3, h4, h5⟩ := xo.gf.co n g h.2
    obtain ⟨g1, g2⟩ := xo.glob h.1
    exact x_glob h1 g1 h2 h3 g2 h4 h5
  | _ => simp [cGlob] at h
theorem cBin_ok {o : Bo} {xa xb : Ex} {a : Expr} (sa : CSound ct G F Γ k fdm xa) (sb : CSound ct G F Γ k fdm xb) (xo : XOk ct G F Γ k fdm X W vw) (h : cBin o (chk G xa).e (chk G xb).e vw m a = true) : PE X a (TE_ X.K ct W m (ev G.P F Γ (.bin o xa xb)).e) := by
  cases a with
  | BinOp l op r p =>
    simp only [cBin, Bool.and_eq_true, decide_eq_true_eq] at h
    obtain ⟨rfl, h1, h2⟩ := h
    exact x_bin (sa.e _ _ _ _ _ xo h1) (sb.e _ _ _ _ _ xo h2)
  | _ => simp [cBin] at h
theorem cNeg_ok {xa : Ex} {a : Expr} (sa : CSound ct G F Γ k fdm xa) (xo : XOk ct G F Γ k fdm X W vw) (h : cNeg (chk G xa).e vw m a = true) : PE X a (TE_ X.K ct W m (ev G.P F Γ (.neg xa)).e) := by
  cases a with
  | UnaryOp op b p =>
    simp only [cNeg, Bool.and_eq_true, decide_eq_true_eq] at h
    obtain ⟨rfl, h1⟩ := h
    exact x_neg (sa.e _ _ _ _ _ xo h1)
  | _ => simp [cNeg] at h
theorem cNot_ok {xa : Ex} {a : Expr} (sa : CSound ct G F Γ k fdm xa) (xo : XOk ct G F Γ k fdm X W vw) (h : cNot (chk G xa).e vw m a = true) : PE X a (TE_ X.K ct W m (ev G.P F Γ (.not xa)).e) := by
  cases a with
  | UnaryOp op b p =>
    simp only [cNot, Bool.and_eq_true, decide_eq_true_eq] at h
    obtain ⟨rfl, h1⟩ := h
    exact x_not (sa.e _ _ _ _ _ xo h1)
  | _ => simp [cNot] at h
theorem cNotT_ok {xa : Ex} {a : Expr} (sa : CSound ct G F Γ k fdm xa) (xo : XOk ct G F Γ k fdm X W vw) (h : cNotT (chk G xa).t vw a = true) : PT X a (TT_ X.K ct W (ev G.P F Γ (.not xa)).t) := by
  cases a with
  | UnaryOp op b p =>
    simp only [cNotT, Bool.and_eq_true, decide_eq_true_eq] at h
    obtain ⟨rfl, h1⟩ := h
    exact t_not (sa.t _ _ _ _ xo h1)
  | _ => simp [cNotT] at h
theorem cCmp_ok {o : Co} {xa xb : Ex} {a : Expr} (sa : CSound ct G F Γ k fdm xa) (sb : CSound ct G F Γ k fdm xb) (xo : XOk ct G F Γ k fdm X W vw) (h : cCmp o (chk G xa).e (chk G xb).e vw a = true) : PE X a (TE_ X.K ct W m (ev G.P F Γ (.cmp o xa xb)).e) ∧ PT X a (TT_ X.K ct W (ev G.P F Γ (.cmp o xa xb)).t) := by
  unfold cCmp at h
  split at h
  · simp only [Bool.and_eq_true, decide_eq_true_eq, Bool.not_eq_true'] at h
    obtain ⟨rfl, h0, h1, h2⟩ := h
    exact ⟨x_cmp xo.un h0 (sa.e _ _ _ _ _ xo h1) (sb.e _ _ _ _ _ xo h2), t_cmp xo.un h0 (sa.e _ _ _ _ _ xo h1) (sb.e _ _ _ _ _ xo h2)⟩
  · cases h
theorem cCmp2_ok {o o2 : Co} {xa xb xc : Ex} {a : Expr} (sa : CSound ct G F Γ k fdm xa) (sb : CSound ct G F Γ k fdm xb) (sc : CSound ct G F Γ k fdm xc) (xo : XOk ct G F Γ k fdm X W vw) (h : cCmp2 o o2 (chk G xa).e (chk G xb).e (chk G xc).e vw a = true) : PE X a (TE_ X.K ct W m (ev G.P F Γ (.cmp2 o o2 xa xb xc)).e) ∧ PT X a (TT_ X.K ct W (ev G.P F Γ (.cmp2 o o2 xa xb xc)).t) := by
  unfold cCmp2 at h
  split at h
  · simp only [Bool.and_eq_true, decide_eq_true_eq, Bool.not_eq_true'] at h
    obtain ⟨⟨rfl, rfl⟩, h0, h1, h2, h3⟩ := h
    exact ⟨x_cmp2 xo.un h0 (sa.e _ _ _ _ _ xo h1) (sb.e _ _ _ _ _ xo h2) (sc.e _ _ _ _ _ xo h3), t_cmp2 xo.un h0 (sa.e _ _ _ _ _ xo h1) (sb.e _ _ _ _ _ xo h2) (sc.e _ _ _ _ _ xo h3)⟩
  · cases h
theorem pw_of {op : BoolOp} {vs : List Expr} {p : Pos} {t : TT} (h : PT X (.BoolOp op vs p) t) : PW X (.BoolOp op vs p) t := ⟨fun wh pins s σ H Q I q => h.run pins s σ H Q I q⟩
theorem pt_of {e : Expr} {t : TT} (h : PW X e t) : PT X e t := ⟨fun pins s σ H Q I q => h.run _ pins s σ H Q I q⟩
theorem cBool_ok {b : Bool} {xa xb : Ex} {a : Expr} (sa : CSound ct G F Γ k fdm xa) (sb : CSound ct G F Γ k fdm xb) (xo : XOk ct G F Γ k fdm X W vw) (h : cBool b (chk G xa).e (chk G xb).e vw m a = true) : PE X a (TE_ X.K ct W m (ev G.P F Γ (if b = true then .and xa xb else .or xa xb)).e) := by
  unfold cBool at h
  split at h
  · simp only [Bool.and_eq_true, decide_eq_true_eq] at h
    obtain ⟨rfl, h1, h2⟩ := h
    cases b with
    | true => exact x_and (sa.e _ _ _ _ _ xo h1) (pe_one (sb.e _ _ _ _ _ xo h2))
    | false => exact x_or (sa.e _ _ _ _ _ xo h1) (pe_one (sb.e _ _ _ _ _ xo h2))
  · simp only [Bool.and_eq_true, decide_eq_true_eq] at h
    obtain ⟨rfl, h1, h2⟩ := h
    cases b with
    | true => exact x_and (sa.e _ _ _ _ _ xo h1) (sb.e _ _ _ _ _ xo h2)
    | false => exact x_or (sa.e _ _ _ _ _ xo h1) (sb.e _ _ _ _ _ xo h2)
  · cases h
theorem cBoolT_ok {b : Bool} {xa xb : Ex} {a : Expr} (sa : CSound ct G F Γ k fdm xa) (sb : CSound ct G F Γ k fdm xb) (xo : XOk ct G F Γ k fdm X W vw) (h : cBoolT b (chk G xa).t (chk G xb).t vw a = true) : PT X a (TT_ X.K ct W (ev G.P F Γ (if b = true then .and xa xb else .or xa xb)).t) := by
  unfold cBoolT at h
  split at h
  · simp only [Bool.and_eq_true, decide_eq_true_eq] at h
    obtain ⟨rfl, h1, h2⟩ := h
    cases b with
    | true => exact pt_of (t_and (sa.t _ _ _ _ xo h1) (pw_and1 (sb.t _ _ _ _ xo h2)))
    | false => exact pt_of (t_or (sa.t _ _ _ _ xo h1) (pw_or1 (sb.t _ _ _ _ xo h2)))
  · simp only [Bool.and_eq_true, decide_eq_true_eq] at h
    obtain ⟨rfl, h1, h2⟩ := h
    cases b with
    | true => exact pt_of (t_and (sa.t _ _ _ _ xo h1) (pw_of (sb.t _ _ _ _ xo h2)))
    | false => exact pt_of (t_or (sa.t _ _ _ _ xo h1) (pw_of (sb.t _ _ _ _ xo h2)))
  · cases h
theorem cIfe_ok {xc xa xb : Ex} {a : Expr} (sc : CSound ct G F Γ k fdm xc) (sa : CSound ct G F Γ k fdm xa) (sb : CSound ct G F Γ k fdm xb) (xo : XOk ct G F Γ k fdm X W vw) (h : cIfe (chk G xc).t (chk G xa).e (chk G xb).e vw m a = true) : PE X a (TE_ X.K ct W m (ev G.P F Γ (.ife xc xa xb)).e) := by
  cases a with
  | IfExp c l r p =>
    simp only [cIfe, Bool.and_eq_true] at h
    exact x_ife (sc.t _ _ _ _ xo h.1) (sa.e _ _ _ _ _ xo h.2.1) (sb.e _ _ _ _ _ xo h.2.2)
  | _ => simp [cIfe] at h
theorem cLst_ok {xa : Ex} {a : Expr} (sa : CSound ct G F Γ k fdm xa) (xo : XOk ct G F Γ k fdm X W vw) (h : cLst (chk G xa).l vw m a = true) : PE X a (TE_ X.K ct W m (ev G.P F Γ (.lst xa)).e) := by
  cases a with
  | List es p => exact x_lst (sa.l _ _ _ _ _ xo h)
  | _ => simp [cLst] at h
theorem cTup_ok {xa : Ex} {a : Expr} (sa : CSound ct G F Γ k fdm xa) (xo : XOk ct G F Γ k fdm X W vw) (h : cTup (chk G xa).l vw m a = true) : PE X a (TE_ X.K ct W m (ev G.P F Γ (.tup xa)).e) := by
  cases a with
  | Tuple es kk p => exact x_tup (sa.l _ _ _ _ _ xo h)
  | _ => simp [cTup] at h
theorem cIx_ok {xa xb : Ex} {a : Expr} (sa : CSound ct G F Γ k fdm xa) (sb : CSound ct G F Γ k fdm xb) (xo : XOk ct G F Γ k fdm X W vw) (h : cIx (chk G xa).e (chk G xb).e vw m a = true) : PE X a (TE_ X.K ct W m (ev G.P F Γ (.ix xa xb)).e) := by
  cases a with
  | Subscript l r p =>
    simp only [cIx, Bool.and_eq_true, decide_eq_true_eq] at h
    exact x_ix (notSlice_ok h.2.1) (sa.e _ _ _ _ _ xo h.2.2.1) (sb.e _ _ _ _ _ xo h.2.2.2) h.1
  | _ => simp [cIx] at h
theorem cSl_ok {xa xl xh : Ex} {a : Expr} (sa : CSound ct G F Γ k fdm xa) (sl : CSound ct G F Γ k fdm xl) (sh : CSound ct G F Γ k fdm xh) (xo : XOk ct G F Γ k fdm X W vw) (h : cSl (chk G xa).e (chk G xl).o (chk G xh).o vw m a = true) : PE X a (TE_ X.K ct W m (ev G.P F Γ (.sl xa xl xh)).e) := by
  unfold cSl at h
  split at h
  · simp only [Bool.and_eq_true] at h
    exact x_sl (sa.e _ _ _ _ _ xo h.1) (sl.o _ _ _ _ xo h.2.1) (sh.o _ _ _ _ xo h.2.2)
  · cases h
theorem cRev_ok {xa : Ex} {a : Expr} (sa : CSound ct G F Γ k fdm xa) (xo : XOk ct G F Γ k fdm X W vw) (h : cRev (chk G xa).e vw m a = true) : PE X a (TE_ X.K ct W m (ev G.P F Γ (.rev xa)).e) := by
  unfold cRev at h
  split at h
  · exact x_rev (sa.e _ _ _ _ _ xo h)
  · cases h
theorem cold_ok {c : Vw → Mo → Expr → Bool} {e : Expr} (h : cold c vw m e = true) : vw.hot = false ∧ c vw m e = true := by
  unfold cold at h
  rw [Bool.and_eq_true, Bool.not_eq_true'] at h
  exact h
theorem cAttr_ok {n : Nat} {xa : Ex} {a : Expr} (sa : CSound ct G F Γ k fdm xa) (xo : XOk ct G F Γ k fdm X W vw) (hc : vw.hot = false) (h : cAttr G (chk G xa).e n vw m a = true) : PE X a (TE_ X.K ct W m (ev G.P F Γ (.attr xa n)).e) := by
  cases a with
  | Attribute b f p =>
    simp only [cAttr, Bool.and_eq_true, decide_eq_true_eq] at h
    exact x_attr h.1 h.2.1 xo.gf.cf (xo.cold hc).fa (fun c cl f fn h1 h2 h3 => xo.gf.pp c cl f n fn h1 h2 h3) (xo.cold hc).room (base_ok h.2.2.1) (sa.e _ _ _ _ _ xo h.2.2.2)
  | _ => simp [cAttr] at h
theorem isNil_ok {x : Ex} (h : isNil x = true) : x = .nil := by cases x <;> first | rfl | (simp [isNil] at h)
theorem kw_len : ∀ {kws : List Keyword}, kws.all (fun k => (kwN k).isSome) = true → (kws.filterMap kwN).length = kws.length
  | [], _ => rfl
  | ⟨nm, v, p⟩ :: kws, h => by
    rw [List.all_cons, Bool.and_eq_true] at h
    cases nm with
    | none => cases h.1
    | some n =>
      show (n :: kws.filterMap kwN).length = _
      rw [List.length_cons, kw_len h.2]; rfl
theorem star_cond {env : PySem.Env} {pos : Pos} {es : List Expr} {kws : List Keyword} (h1 : es.all notStar = true) (h2 : kws.all (fun k => (kwN k).isSome) = true) : ((backTo pos (starEach es env)).any (·.1) || (backToKw pos (keywordEach kws env)).any (·.1.isNone)) = false := by
  rw [starEach_any h1, (kw_isSome h2).2.1]; rfl
theorem star_head {env : PySem.Env} {es : List Expr} (h1 : es.all notStar = true) : ∀ e r, es = e :: r → starEach es env = (false, eval e env) :: starEach r env := fun e r he => by
  subst he
  rw [List.all_cons, Bool.and_eq_true] at h1
  exact starEach_cons h1.1
theorem cCall_ok {f : Nat} {idx : List Nat} {xa xb : Ex} {a : Expr} (sa : CSound ct G F Γ k fdm xa) (sb : CSound ct G F Γ k fdm xb) (xo : XOk ct G F Γ k fdm X W vw) (h : cCall G f idx (isNil xa) (chk G xa).l (chk G xb).lk vw m a = true) : PE X a (TE_ X.K ct W m (ev G.P F Γ (.call f xa xb idx)).e) := by
  unfold cCall at h
  split at h
  · split at h
    · rename_i x p es kws pos _ fn hfn
      simp only [Bool.and_eq_true, Bool.or_eq_true, decide_eq_true_eq, Bool.not_eq_true'] at h
      obtain ⟨⟨g, gh⟩, h1, h2, h3, h4, h5, h6, h7, h8⟩ := h
      obtain ⟨g1, g2⟩ := xo.glob g
      obtain ⟨m1, m2⟩ := xo.gf.fn _ _ h1
      obtain ⟨k1, k2, k3⟩ := kw_isSome (env := X.env) (pos := by assumption) h3
      have key : (fn.names.take fn.np).length = fn.np ∧ BindF X.K ct (fdm f) (fn.names.take fn.np) fn.dfl es.length (kws.filterMap kwN) idx ∧ RunsF X W (ct.fa f) (fdm f) (fn.names.take fn.np) (FSp X.K ct fn.fresh fun args S Q E => F Γ f args S Q E) := by
        cases hh : vw.hot with
        | false =>
          have c := xo.cold hh
          exact ⟨(c.fa.fn f fn hfn).1, c.fa.pt f _ _ idx fn h2 hfn, run_fg (c.fa.fn f fn hfn).2 (c.room.mono (Nat.le_succ k)) xo.tk⟩
        | true =>
          have c := xo.hotp hh
          rw [hh] at gh
          obtain ⟨gc, gq⟩ := gh.resolve_left (by decide)
          obtain ⟨p, i, dx, hp⟩ := c.hp
          exact ⟨(c.fq.fn f fn hfn gc gq).1, c.fq.pt f _ _ idx fn h2 hfn, run_fq (c.fq.fn f fn hfn gc gq).2 (c.room.mono (Nat.le_succ k)) hp xo.tk⟩
      refine x_call hfn key.1 key.2.2 key.2.1 (kw_len h3) g1 m1 m2 h6 g2 k1 k3 (star_cond h4 h3) (fun he => ?_) (star_head h4) (sa.l _ _ _ _ _ xo h7) (sb.lk _ _ _ _ xo h8)
      rcases h5 with h5 | h5
      · rw [he] at h5; cases h5
      · exact isNil_ok h5
    · cases h
  · cases h
theorem cMk_ok {c : Nat} {idx : List Nat} {xa xb : Ex} {a : Expr} (sa : CSound ct G F Γ k fdm xa) (sb : CSound ct G F Γ k fdm xb) (xo : XOk ct G F Γ k fdm X W vw) (hc : vw.hot = false) (h : cMk G c idx (isNil xa) (chk G xa).l (chk G xb).lk vw m a = true) : PE X a (TE_ X.K ct W m (ev G.P F Γ (.mk c xa xb idx)).e) := by
  unfold cMk at h
  split at h
  · split at h
    · rename_i cl hcl
      split at h
      · rename_i fn hfn
        simp only [Bool.and_eq_true, Bool.or_eq_true, decide_eq_true_eq, Bool.not_eq_true'] at h
        obtain ⟨g, h1, h2, h3, h4, h5, ⟨h6, h6'⟩, h7, h8⟩ := h
        obtain ⟨g1, g2⟩ := xo.glob g
        obtain ⟨k1, k2, k3⟩ := kw_isSome (env := X.env) (pos := by assumption) h3
        refine x_mk hcl hfn (xo.gf.cf _ _ hcl) (xo.cold hc).fa h2 (kw_len h3) h6' (xo.cold hc).room xo.tk g1 (xo.gf.kl _ _ h1) h6 g2 k1 k3 (star_cond h4 h3) (fun he => ?_) (star_head h4) (sa.l _ _ _ _ _ xo h7) (sb.lk _ _ _ _ xo h8)
        rcases h5 with h5 | h5
        · rw [he] at h5; cases h5
        · exact isNil_ok h5
      · cases h
    · cases h
  · cases h
theorem cSdl_ok {l : List (Str × Int)} {a : Expr} (h : cSdl l vw m a = true) : PE X a (TE_ X.K ct W m (ev G.P F Γ (.sdl l)).e) := by
  unfold cSdl at h
  split at h
  · rw [Bool.and_eq_true, decide_eq_true_eq, List.isEmpty_iff] at h
    obtain ⟨rfl, h⟩ := h
    exact x_sd0 h
  · rw [Bool.and_eq_true, decide_eq_true_eq, decide_eq_true_eq] at h
    obtain ⟨rfl, h⟩ := h
    exact x_sd1 h
  · cases h
theorem cUp_ok {xa : Ex} {a : Expr} (sa : CSound ct G F Γ k fdm xa) (xo : XOk ct G F Γ k fdm X W vw) (h : cUp (chk G xa).e vw m a = true) : PE X a (TE_ X.K ct W m (ev G.P F Γ (.up xa)).e) := by
  unfold cUp at h
  split at h
  · simp only [Bool.and_eq_true, decide_eq_true_eq] at h
    obtain ⟨rfl, h1, h2, h3⟩ := h
    exact x_up (base_ok h2) h1 (sa.e _ _ _ _ _ xo h3)
  · cases h
theorem exn_ty (xo : XOk ct G F Γ k fdm X W vw) {kk : Option Nat} {y : Str} {p : Pos} (hg : globB vw y = true) (h : (match kk with
      | some c => decide ((y, c) ∈ G.kls)
      | none => decide (y = "ValueError" ∨ y = "LookupError" ∨ y = "ArithmeticError")) = true) : PE X (.Name y p) (tC (xtV ct kk y)) := by
  obtain ⟨g1, g2⟩ := xo.glob hg
  cases kk with
  | some c => exact pe_glob g1 (xo.gf.kl _ _ (of_decide_eq_true h)) rfl g2
  | none =>
    rcases of_decide_eq_true h with rfl | rfl | rfl
    · exact pe_bltn g1 (xo.bi_none (by decide)) (show bootBuiltins ("ValueError" : Str) = some (.type "ValueError") by decide +kernel) rfl (by decide) g2
    · exact pe_bltn g1 (xo.bi_none (by decide)) (show bootBuiltins ("LookupError" : Str) = some (.type "LookupError") by decide +kernel) rfl (by decide) g2
    · exact pe_bltn g1 (xo.bi_none (by decide)) (show bootBuiltins ("ArithmeticError" : Str) = some (.type "ArithmeticError") by decide +kernel) rfl (by decide) g2
theorem xtV_one (kk : Option Nat) (y : Str) : ∀ u, RelV (xtV ct kk y) u → u = xtC ct kk y := by
  cases kk with
  | some c => intro u h; exact h
  | none => intro u h; exact h
theorem cIsx_ok {kk : Option Nat} {y : Str} {l : List Nat} {xa : Ex} {a : Expr} (sa : CSound ct G F Γ k fdm xa) (xo : XOk ct G F Γ k fdm X W vw) (h : cIsx G kk l (chk G xa).e vw m a = true) : PE X a (TE_ X.K ct W m (ev G.P F Γ (.isx xa kk y l)).e) := by
  unfold cIsx at h
  split at h
  · simp only [Bool.and_eq_true, decide_eq_true_eq] at h
    obtain ⟨hh, rfl, h1, h2, h3, h4, h6, h5⟩ := h
    obtain ⟨p, i, dx, hp⟩ := (xo.hotp hh).hp
    exact x_isx hp xo.gf.xi (fun c fs hc => xo.gf.xt _ _ _ h6 c fs hc) (xtV_one _ _) (xo.glob h1).1 (xo.bi_none (by decide)) (starEach_cons h3) (starEach_cons rfl) (starEach_any (by rfl)) (sa.e _ _ _ _ _ xo h5) (exn_ty xo h2 h4)
  · cases h
theorem cAttx_ok {n : Nat} {xa : Ex} {a : Expr} (sa : CSound ct G F Γ k fdm xa) (xo : XOk ct G F Γ k fdm X W vw) (h : cAttx G (chk G xa).e n vw m a = true) : PE X a (TE_ X.K ct W m (ev G.P F Γ (.attx xa n)).e) := by
  cases a with
  | Attribute b f p =>
    simp only [cAttx, Bool.and_eq_true, decide_eq_true_eq] at h
    obtain ⟨hh, h1, h2, h3, h4⟩ := h
    obtain ⟨p, i, dx, hp⟩ := (xo.hotp hh).hp
    exact x_attx h1 hp (fun c fs i hc hi => xo.gf.xa n f c fs i h2 hc hi) (base_ok h3) (sa.e _ _ _ _ _ xo h4)
  | _ => simp [cAttx] at h
theorem cLamc_ok {f : Nat} {xb : Ex} {a : Expr} (sb : CSound ct G F Γ k fdm xb) (xo : XOk ct G F Γ k fdm X W vw) (hc : vw.hot = false) (h : cLamc G f (chk G xb).e vw m a = true) : PE X a (TE_ X.K ct W m (ev G.P F Γ (.lamc f xb)).e) := by
  unfold cLamc at h
  split at h
  · split at h
    · rename_i x _ params body scope _ _ _ fn hfn
      simp only [Bool.and_eq_true, Bool.or_eq_true, decide_eq_true_eq] at h
      obtain ⟨h1, h2, h3, h4, h5, h6, h7, h8, h9, h10, h11⟩ := h
      have cd := xo.cold hc
      obtain ⟨g1, g2⟩ := xo.glob h5
      obtain ⟨m1, m2⟩ := xo.gf.fn _ _ h6
      obtain ⟨pr, df⟩ := lamPB_ok h9
      obtain ⟨c, P, t1, t2, t3, t4⟩ := cd.tab h2 h1
      have L := LamX.lamS_by h10
      refine x_lamc (k := k + 2) cd.hxn ((cd.fa.fn f fn hfn).1.trans h4) (cd.fa.pt f 1 [] [] fn h7 hfn) (cd.told h2 f fn hfn h3) (cd.room3 h1) xo.tk g1 m1 m2 h8 g2 t1 t2 t3 t4 (by rw [xo.hs]; exact L) (df _) (fun q cl pm cv ctv => by rw [bindArgs_std pr]; rfl) fun A outer s H E fl c' rm => ?_
      refine sb.e _ _ { sc := scope, own := scope, tb := false } _ _ ?_ h11
      exact {
        hN := xo.hN
        hs := rfl
        nd := xo.nd
        un := by have := rm.r.un; show (A.deeper _).units + 65 < cLine; omega
        gd := rm.g
        tk := takes_of rfl rfl rfl rfl
        tg := fun n hn => by
          have hn : locB scope n = true := hn
          rcases loc_of hn with q | q
          · exact absurd rfl (L.own _ (PySem.mem_of_lookup q)).1
          · exact absurd rfl (L.own _ (PySem.mem_of_lookup q)).2
        gf := xo.gf
        cold := fun _ => {
          calm := rfl
          hxn := cd.hxn
          room := rm.mono (by omega)
          room2 := rm
          room3 := fun z => (by cases z)
          fa := ⟨cd.fa.fn, cd.fa.no, cd.fa.pt⟩
          tab := fun _ z => (by cases z)
          gfw := cd.gfw
          fq := fun h => ⟨(cd.fq h).fn, (cd.fq h).pt⟩
          told := cd.told }
        hotp := fun z => (by cases z) }
    · cases h
  · cases h
end
end Sb
set_option linter.all false
set_option maxRecDepth 20000
set_option maxHeartbeats 2000000
set_option autoImplicit false
/-! A23: the check of expressions is right, second half. -/
namespace Sb
open PySem PySem.Spec PyProof.Rows L2
section
variable {ct : CT} {G : Sc} {F : Fsem} {Γ : List Clo} {k : Nat} {fdm : Nat → FuncData} {X : Cx} {W : WX} {vw : Vw} {m : Mo}
theorem bi_facts (x : XOk ct G F Γ k fdm X W vw) (b : Bi) (h : biOk b = true) (hc : vw.hot = false ∨ calmBi b = false) : ∃ f, CallR X f (rBi X.K ct b) ∧ ((∃ id, f = .builtin id) ∨ ∃ T, f = .type T) ∧ bootBuiltins (biN b) = some f ∧ biN b ∈ biNames ∧ biN b ≠ "__name__" := by
  cases b <;> first | (simp [biOk] at h; done) | skip
  · exact ⟨.builtin "sum", cb_sum (x.cold (hc.resolve_right (by decide))).calm, .inl ⟨_, rfl⟩, by decide +kernel, by decide, by decide⟩
  · exact ⟨.builtin "min", cb_min (x.cold (hc.resolve_right (by decide))).calm, .inl ⟨_, rfl⟩, by decide +kernel, by decide, by decide⟩
  · exact ⟨.builtin "max", cb_max (x.cold (hc.resolve_right (by decide))).calm, .inl ⟨_, rfl⟩, by decide +kernel, by decide, by decide⟩
  · exact ⟨.builtin "all", cb_all (x.cold (hc.resolve_right (by decide))).calm, .inl ⟨_, rfl⟩, by decide +kernel, by decide, by decide⟩
  · exact ⟨.builtin "any", cb_any (x.cold (hc.resolve_right (by decide))).calm, .inl ⟨_, rfl⟩, by decide +kernel, by decide, by decide⟩
  · exact ⟨.type "tuple", cb_tuple, .inr ⟨_, rfl⟩, by decide +kernel, by decide, by decide⟩
  · exact ⟨.type "list", cb_list, .inr ⟨_, rfl⟩, by decide +kernel, by decide, by decide⟩
  · exact ⟨.builtin "sorted", cb_sorted x.un, .inl ⟨_, rfl⟩, by decide +kernel, by decide, by decide⟩
  · exact ⟨.type "str", cb_str, .inr ⟨_, rfl⟩, by decide +kernel, by decide, by decide⟩
  · exact ⟨.type "int", cb_int, .inr ⟨_, rfl⟩, by decide +kernel, by decide, by decide⟩
  · exact ⟨.builtin "abs", cb_abs, .inl ⟨_, rfl⟩, by decide +kernel, by decide, by decide⟩
  · exact ⟨.builtin "divmod", cb_divmod, .inl ⟨_, rfl⟩, by decide +kernel, by decide, by decide⟩
  · exact ⟨.builtin "repr", cb_repr x.gd (by have := x.un; omega), .inl ⟨_, rfl⟩, by decide +kernel, by decide, by decide⟩
theorem biX_of {P : Prog} {bi : Bi} (h : biOk bi = true) (ds : List D) (S : Store) (Q E : QD) (q : biX P F Γ bi ds S Q E) : biD bi ds fun r => Q r S := by
  cases bi <;> first | (simp [biOk] at h; done) | exact q
theorem cBi_ok {bi : Bi} {xa : Ex} {a : Expr} (sa : CSound ct G F Γ k fdm xa) (xo : XOk ct G F Γ k fdm X W vw) (h : cBi bi (chk G xa).l vw m a = true) : PE X a (TE_ X.K ct W m (ev G.P F Γ (.bi bi xa)).e) := by
  unfold cBi at h
  split at h
  · rename_i x p e es pos
    simp only [Bool.and_eq_true, decide_eq_true_eq] at h
    obtain ⟨rfl, ⟨hb, hcb⟩, hg, hs, hl⟩ := h
    rw [Bool.or_eq_true, Bool.not_eq_true', Bool.not_eq_true'] at hcb
    obtain ⟨f, f1, f2, f3, f4, f5⟩ := bi_facts xo bi hb hcb
    obtain ⟨g1, g2⟩ := xo.glob hg
    have hs' := hs
    rw [List.all_cons, Bool.and_eq_true] at hs'
    exact x_bi f1 f2 g1 (xo.bi_none f4) f3 f5 g2 (starEach_cons hs'.1) (starEach_any hs'.2) (fun ds S Q E q => biX_of hb ds S Q E q) (sa.l _ _ _ _ _ xo hl)
  · cases h
theorem cLen_ok {xa : Ex} {a : Expr} (sa : CSound ct G F Γ k fdm xa) (xo : XOk ct G F Γ k fdm X W vw) (hc : vw.hot = false) (h : cLen (chk G xa).e vw m a = true) : PE X a (TE_ X.K ct W m (ev G.P F Γ (.bi .len (.cons xa .nil))).e) := by
  unfold cLen at h
  split at h
  · simp only [Bool.and_eq_true, decide_eq_true_eq] at h
    obtain ⟨rfl, hg, hs, hl⟩ := h
    exact x_len xo.gf.cf (xo.cold hc).fa xo.gf.pl (xo.cold hc).room (xo.glob hg).1 (xo.bi_none (by decide)) (starEach_cons hs) (sa.e _ _ _ _ _ xo hl)
  · cases h
theorem few_ok {env : PySem.Env} {pos : Pos} {es : List Expr} (h : es.all notStar = true) (hl : es.length < 30) : ((backTo pos (starEach es env)).all (fun x => !x.1) && (backToKw pos (keywordEach [] env)).all (fun x => x.1.isSome)
      && decide (es.length + ([] : List Keyword).length + (if ([] : List Keyword).isEmpty then 0 else 1) < 30)) = true := by
  have h1 : (backTo pos (starEach es env)).all (fun x => !x.1) = true := by
    have := starEach_any (env := env) (pos := pos) h
    rw [← Bool.not_eq_true, List.any_eq_true] at this
    rw [List.all_eq_true]
    intro x hx
    cases q : x.1 with
    | false => rfl
    | true => exact absurd ⟨x, hx, q⟩ this
  rw [h1]
  show (true && true && decide (es.length + 0 + 0 < 30)) = true
  simpa using hl
theorem cMt_ok {mt : Mt} {xa xb : Ex} {a : Expr} (sa : CSound ct G F Γ k fdm xa) (sb : CSound ct G F Γ k fdm xb) (xo : XOk ct G F Γ k fdm X W vw) (h : cMt mt (chk G xa).e (chk G xb).l vw m a = true) : PE X a (TE_ X.K ct W m (ev G.P F Γ (.mt mt xa xb)).e) := by
  unfold cMt at h
  split at h
  · simp only [Bool.and_eq_true, decide_eq_true_eq] at h
    obtain ⟨rfl, h1, h2, h3, h4, h5, h6⟩ := h
    have hs' := h3
    rw [List.all_cons, Bool.and_eq_true] at hs'
    exact x_mt xo.un (base_ok h4) (few_ok h3 h1) h2 (starEach_cons hs'.1) (starEach_any hs'.2) (sa.e _ _ _ _ _ xo h5) (sb.l _ _ _ _ _ xo h6)
  · cases h
theorem isi_ty (xo : XOk ct G F Γ k fdm X W vw) {t : Ty} {y : Str} {p : Pos} (hg : globB vw y = true) (h : (match t with
      | .cls c => decide ((y, c) ∈ G.kls)
      | t => decide (tyN t = some y)) = true) : PE X (.Name y p) (tC (tyV ct t)) := by
  obtain ⟨g1, g2⟩ := xo.glob hg
  have key : ∀ (n : String) (T : String), y = (n : Str) → (n : Str) ∈ biNames → bootBuiltins (n : Str) = some (.type T) → (n : Str) ≠ "__name__" → PE X (.Name y p) (tC (.ty T)) := fun n T e hm hb hn => by
    subst e
    exact pe_bltn g1 (xo.bi_none hm) hb rfl hn g2
  cases t with
  | int => exact key "int" "int" (by simpa [tyN] using (of_decide_eq_true h).symm) (by decide) (by decide +kernel) (by decide)
  | bool => exact key "bool" "bool" (by simpa [tyN] using (of_decide_eq_true h).symm) (by decide) (by decide +kernel) (by decide)
  | str => exact key "str" "str" (by simpa [tyN] using (of_decide_eq_true h).symm) (by decide) (by decide +kernel) (by decide)
  | tuple => exact key "tuple" "tuple" (by simpa [tyN] using (of_decide_eq_true h).symm) (by decide) (by decide +kernel) (by decide)
  | list => exact key "list" "list" (by simpa [tyN] using (of_decide_eq_true h).symm) (by decide) (by decide +kernel) (by decide)
  | dict => exact key "dict" "dict" (by simpa [tyN] using (of_decide_eq_true h).symm) (by decide) (by decide +kernel) (by decide)
  | cls c => exact pe_glob g1 (xo.gf.kl _ _ (of_decide_eq_true h)) rfl g2
theorem cIsi_ok {ts : List Ty} {xa : Ex} {a : Expr} (sa : CSound ct G F Γ k fdm xa) (xo : XOk ct G F Γ k fdm X W vw) (h : cIsi G ts (chk G xa).e vw m a = true) : PE X a (TE_ X.K ct W m (ev G.P F Γ (.isi xa ts)).e) := by
  unfold cIsi at h
  split at h
  · split at h
    · rename_i t
      simp only [Bool.and_eq_true, decide_eq_true_eq] at h
      obtain ⟨rfl, h1, h2, h3, h4, h6, h5⟩ := h
      exact x_isi (fun d h1 h2 => xo.gf.kit _ d h6 h1 h2) (fun c cl hc => ⟨(xo.gf.cf c cl hc).isf, (xo.gf.cf c cl hc).cls⟩) (xo.glob h1).1 (xo.bi_none (by decide)) (starEach_cons h3) (starEach_cons rfl) (starEach_any (by rfl)) (sa.e _ _ _ _ _ xo h5) (isi_ty xo h2 h4)
    · cases h
  · cases h
/-! ### what is walked -/
theorem cSrl_ok {xa : Ex} {a : Expr} (sa : CSound ct G F Γ k fdm xa) (xo : XOk ct G F Γ k fdm X W vw) (hc : vw.hot = false) (h : cSrl G (chk G xa).e vw m a = true) : PE X a (TE_ X.K ct W m (ev G.P F Γ (.srl xa)).e) := by
  unfold cSrl at h
  split at h
  · rename_i x _ a kw params ln _ row _ _ row2 _ _ _ scope _ _ pos
    simp only [Bool.and_eq_true, decide_eq_true_eq, Bool.not_eq_true', List.all_eq_true, decide_eq_false_iff_not] at h
    obtain ⟨⟨rfl, rfl, rfl, rfl, rfl⟩, ⟨h1, hb⟩, h2, h3, h4, h5, h6, h7, h8, h9, h10, h11, h12⟩ := h
    obtain ⟨g1, _⟩ := xo.glob h2
    obtain ⟨pr, df⟩ := lamPB_ok h4
    obtain ⟨c, P, t1, t2, t3, t4⟩ := (xo.cold hc).tab h1 hb
    exact x_srl t1 t2 t3 t4 (df _) (fun y hy e => absurd e (h8 y hy).2) h5 h6 h7 (fun y hy => (h8 y hy).1) h9 h10 h11 (fun v q cl pm cv ctv => by rw [bindArgs_std pr]; rfl) g1 (xo.bi_none (by decide)) (xo.bi_none (by decide)) (xo.cold hc).room.r
      (by rw [starEach_cons h3]; rfl) (starEach_cons h3) (starEach_any (by rw [List.all_cons, h3]; rfl)) (sa.e _ _ _ _ _ xo h12)
  · cases h
theorem cRng1_ok {xa : Ex} {a tg : Expr} {st : Bool} (sa : CSound ct G F Γ k fdm xa) (xo : XOk ct G F Γ k fdm X W vw) (h : cRng1 (chk G xa).e vw a = true) : PI X tg a (TI_ X.K ct W st false (ev G.P F Γ (.rng1 xa)).i) := by
  unfold cRng1 at h
  split at h
  · simp only [Bool.and_eq_true, decide_eq_true_eq] at h
    obtain ⟨rfl, h1, h2, h3⟩ := h
    exact i_rng1 (xo.glob h1).1 (xo.bi_none (by decide)) (starEach_cons h2) (sa.e _ _ _ _ _ xo h3)
  · cases h
theorem cRng2_ok {xa xb : Ex} {a tg : Expr} {st : Bool} (sa : CSound ct G F Γ k fdm xa) (sb : CSound ct G F Γ k fdm xb) (xo : XOk ct G F Γ k fdm X W vw) (h : cRng2 (chk G xa).e (chk G xb).e vw a = true) : PI X tg a (TI_ X.K ct W st false (ev G.P F Γ (.rng2 xa xb)).i) := by
  unfold cRng2 at h
  split at h
  · simp only [Bool.and_eq_true, decide_eq_true_eq] at h
    obtain ⟨rfl, h1, h2, h3, h4, h5⟩ := h
    exact i_rng2 (xo.glob h1).1 (xo.bi_none (by decide)) (by rw [starEach_cons h2, starEach_cons h3]; rfl) (starEach_cons h3) (sa.e _ _ _ _ _ xo h4) (sb.e _ _ _ _ _ xo h5)
  · cases h
theorem isTup_ok {t : Expr} (h : isTup t = true) : ∃ es kk p, t = .Tuple es kk p := by
  cases t <;> first | exact ⟨_, _, _, rfl⟩ | (simp [isTup] at h)
theorem cEnum_ok {xa : Ex} {a tg : Expr} {st : Bool} (sa : CSound ct G F Γ k fdm xa) (xo : XOk ct G F Γ k fdm X W vw) (h : cEnum (chk G xa).e vw st tg a = true) : PI X tg a (TI_ X.K ct W st true (ev G.P F Γ (.enum xa)).i) := by
  unfold cEnum at h
  split at h
  · simp only [Bool.and_eq_true, decide_eq_true_eq] at h
    obtain ⟨ht, rfl, h1, h2, h3⟩ := h
    obtain ⟨es, kk, p, rfl⟩ := isTup_ok ht
    exact i_enum (xo.glob h1).1 (xo.bi_none (by decide)) (starEach_cons h2) (sa.e _ _ _ _ _ xo h3)
  · cases h
theorem cZip_ok {xa : Ex} {a tg : Expr} {st : Bool} (sa : CSound ct G F Γ k fdm xa) (xo : XOk ct G F Γ k fdm X W vw) (h : cZip (chk G xa).l vw st tg a = true) : PI X tg a (TI_ X.K ct W st true (ev G.P F Γ (.zip xa)).i) := by
  unfold cZip at h
  split at h
  · simp only [Bool.and_eq_true, decide_eq_true_eq, Bool.not_eq_true'] at h
    obtain ⟨ht, rfl, h1, h2, h3, h4, h5⟩ := h
    obtain ⟨es, kk, p, rfl⟩ := isTup_ok ht
    exact i_zip (xo.glob h1).1 (xo.bi_none (by decide)) (starEach_cons h2) (starEach_any (by rw [List.all_cons, h3]; rfl)) h4 (sa.l _ _ _ _ _ xo h5)
  · cases h
/-! ### blocks -/
theorem ownP_map (N : List Str) (own : List Nat) : (ownP N own).map (·.2) = own := by
  unfold ownP
  rw [List.map_map]
  show own.map (fun i => i) = own
  exact List.map_id' own
theorem blk_ok {N : List Str} {sc scope : Scope} {own : List Nat} (h : blkB N sc scope own = true) : BlkOk N sc scope (ownP N own) := by
  simp only [blkB, Bool.and_eq_true, decide_eq_true_eq, List.all_eq_true, Bool.or_eq_true, Bool.not_eq_true', decide_eq_false_iff_not] at h
  obtain ⟨h1, h2, h3, h4, h5⟩ := h
  refine ⟨h1, fun y hy => h2 y hy, fun p hp => ?_, fun y hy e => ?_, fun y hy e => ?_⟩
  · unfold ownP at hp
    obtain ⟨i, hi, rfl⟩ := List.mem_map.mp hp
    have := h3 i hi
    cases q : N[i]? with
    | none => rw [q] at this; cases this
    | some n => rfl
  · rcases h4 y hy with q | q
    · exact absurd e q
    · exact q
  · rcases h5 y hy with q | q
    · rw [Bool.or_eq_false_iff, decide_eq_false_iff_not, decide_eq_false_iff_not] at q
      rcases e with e | e
      · exact absurd e q.1
      · exact absurd e q.2
    · exact q
theorem XOk.blk (xo : XOk ct G F Γ k fdm X W vw) (hc : vw.hot = false) (scope : Scope) (s : Shared) (H : Hp) (C : Addr) (cl : List (Str × Addr)) (fp : List Addr) : XOk ct G F Γ k fdm (X.blk s H scope (compEnvC scope cl C X.env) fp) WF (inV vw scope) where
  hN := xo.hN
  hs := by
    show relS scope X.env.scope = relS scope vw.sc
    rw [xo.hs]
  nd := xo.nd
  un := xo.un
  gd := xo.gd
  tk := fun u s' ⟨_, _, _, _, _, _, _, _, _, _, _, _, _, _, _, _, z⟩ => z.elim
  tg := fun n hn => by
    have hn : locB scope n = true := hn
    show Loc (relS scope X.env.scope) n ∧ ((scope.names.lookup n == some .cell) = true ∨ (relS scope X.env.scope).names.lookup n = some .local)
    unfold locB at hn
    split at hn
    · rename_i e
      have := lookup_relS_keep (sc := X.env.scope) (k := .local) (by decide) e
      exact ⟨.inl this, .inr this⟩
    · rename_i e
      have := lookup_relS_keep (sc := X.env.scope) (k := .cell) (by decide) e
      exact ⟨.inr this, .inl (by rw [e]; rfl)⟩
    · cases hn
  gf := xo.gf
  cold := fun _ => by
    have c := xo.cold hc
    exact ⟨c.calm, c.hxn, c.room, c.room2, c.room3, ⟨c.fa.fn, c.fa.no, c.fa.pt⟩, c.tab, c.gfw, fun h => ⟨(c.fq h).fn, (c.fq h).pt⟩, c.told⟩
  hotp := fun z => by
    have z : vw.hot = true := z
    rw [hc] at z; cases z
theorem cIfs_ok {xc : Ex} {ifs : List Expr} (sc : CSound ct G F Γ k fdm xc) (xo : XOk ct G F Γ k fdm X W vw) (h : cIfs (isYes xc) (chk G xc).t vw ifs = true) : PTs X ifs (TT_ X.K ct W (ev G.P F Γ xc).t) := by
  match ifs, h with
  | [], h =>
    have : xc = .yes := by cases xc <;> first | rfl | (simp [cIfs, isYes] at h)
    subst this
    exact ⟨fun pins s σ H Q I hq => pts_nil.run pins s σ H Q I (by
      obtain ⟨U, S, ρ, Q', E, ok, sl, r, po, px⟩ := hq
      exact po true U S H .refl ok r)⟩
  | [c], h => exact pts_one (sc.t _ _ _ _ xo h)
theorem cComp_ok {own : List Nat} {xt xi xc xe : Ex} {a : Expr} (st : CSound ct G F Γ k fdm xt) (si : CSound ct G F Γ k fdm xi) (sc : CSound ct G F Γ k fdm xc) (se : CSound ct G F Γ k fdm xe) (xo : XOk ct G F Γ k fdm X W vw) (hc : vw.hot = false)
    (h : cComp G own (rawOf xi) (isYes xc) (chk G xt).g (chk G xi).i (chk G xc).t (chk G xe).e vw m a = true) : PE X a (TE_ X.K ct W m (ev G.P F Γ (.comp xt xi xc xe own)).e) := by
  unfold cComp at h
  split at h
  · rename_i elt tg iter ifs scope pos
    simp only [Bool.and_eq_true] at h
    obtain ⟨h1, h2, h3, h4, h5, h6⟩ := h
    have key : PE X (.ListComp elt [⟨tg, iter, ifs, 0⟩] scope pos) (TE_ X.K ct W m (ev G.P F Γ (.comp xt xi xc xe ((ownP G.N own).map (·.2)))).e) :=
      x_comp (raw := rawOf xi) (xo.cold hc).calm xo.nd (by rw [xo.hN, xo.hs]; exact blk_ok h1) (si.i _ _ _ _ _ _ xo h3)
        (fun s H C cl fp => by rw [ownP_map]; exact st.g _ _ _ _ _ _ (xo.blk hc scope s H C cl fp) h4) (fun s H C cl fp => cIfs_ok sc (xo.blk hc scope s H C cl fp) h5) (fun s H C cl fp => se.e _ _ _ _ _ (xo.blk hc scope s H C cl fp) h6) (notSet_ok h2)
    rw [ownP_map] at key
    exact key
  · cases h
theorem cComp2_ok {own own2 : List Nat} {xt xi xc xt2 xi2 xc2 xe : Ex} {a : Expr} (st : CSound ct G F Γ k fdm xt) (si : CSound ct G F Γ k fdm xi) (sc : CSound ct G F Γ k fdm xc) (st2 : CSound ct G F Γ k fdm xt2) (si2 : CSound ct G F Γ k fdm xi2) (sc2 : CSound ct G F Γ k fdm xc2) (se : CSound ct G F Γ k fdm xe) (xo : XOk ct G F Γ k fdm X W vw) (hc : vw.hot = false)
    (h : cComp2 G own own2 (rawOf xi) (isYes xc) (rawOf xi2) (isYes xc2) (chk G xt).g (chk G xt2).g (chk G xi).i (chk G xi2).i (chk G xc).t (chk G xc2).t (chk G xe).e vw m a = true) : PE X a (TE_ X.K ct W m (ev G.P F Γ (.comp2 xt xi xc xt2 xi2 xc2 xe own own2)).e) := by
  unfold cComp2 at h
  split at h
  · rename_i elt tg iter ifs tg2 iter2 ifs2 scope pos
    simp only [Bool.and_eq_true, List.all_eq_true, decide_eq_true_eq] at h
    obtain ⟨h1, h0, h2, h2', h3, h4, h5, h6, h7, h8, h9⟩ := h
    have key : PE X (.ListComp elt [⟨tg, iter, ifs, 0⟩, ⟨tg2, iter2, ifs2, 0⟩] scope pos) (TE_ X.K ct W m (ev G.P F Γ (.comp2 xt xi xc xt2 xi2 xc2 xe ((ownP G.N own).map (·.2)) own2)).e) :=
      x_comp2 (raw := rawOf xi) (raw1 := rawOf xi2) (xo.cold hc).calm xo.nd (by rw [xo.hN, xo.hs]; exact blk_ok h1) (by rw [ownP_map]; exact h0) (si.i _ _ _ _ _ _ xo h3)
        (fun s H C cl fp => by rw [ownP_map]; exact st.g _ _ _ _ _ _ (xo.blk hc scope s H C cl fp) h4) (fun s H C cl fp => cIfs_ok sc (xo.blk hc scope s H C cl fp) h5)
        (fun s H C cl fp => si2.i _ _ _ _ _ _ (xo.blk hc scope s H C cl fp) h6) (fun s H C cl fp => st2.g _ _ _ _ _ _ (xo.blk hc scope s H C cl fp) h7) (fun s H C cl fp => cIfs_ok sc2 (xo.blk hc scope s H C cl fp) h8)
        (fun s H C cl fp => se.e _ _ _ _ _ (xo.blk hc scope s H C cl fp) h9) (notSet_ok h2) (fun _ => notSet_ok h2')
    rw [ownP_map] at key
    exact key
  · cases h
theorem XOk.tgt (xo : XOk ct G F Γ k fdm X W vw) {i : Nat} {n : Str} (h : tgtB G vw i n = true) : X.N[i]? = some n ∧ Loc X.env.scope n ∧ (X.fn n = true ∨ X.env.scope.names.lookup n = some .local) := by
  simp only [tgtB, Bool.and_eq_true, decide_eq_true_eq] at h
  obtain ⟨h1, h2⟩ := xo.tg n h.2
  exact ⟨by rw [xo.hN]; exact h.1, h1, h2⟩
theorem gVar_ok {i : Nat} {raw : Bool} {own : List Nat} {a : Expr} (xo : XOk ct G F Γ k fdm X W vw) (h : gVar G i vw raw own a = true) : PG X a (TGc X.K ct raw own (ev G.P F Γ (.var i)).g) := by
  cases a with
  | Name n p =>
    simp only [gVar, Bool.and_eq_true, decide_eq_true_eq, Bool.not_eq_true'] at h
    obtain ⟨rfl, h1, h2⟩ := h
    obtain ⟨t1, t2, t3⟩ := xo.tgt h1
    exact g_var xo.nd t1 t2 t3 h2
  | _ => simp [gVar] at h
theorem assign_one {e : Expr} {es : List Expr} {env : PySem.Env} (h : simpT e = true) : (assignEach (e :: es) env).map (·.2) = assign e env :: (assignEach es env).map (·.2) ∧ (assignEach (e :: es) env).length = (assignEach es env).length + 1 ∧ ((assignEach es env).findIdx? (·.1) = none → (assignEach (e :: es) env).findIdx? (·.1) = none) := by
  cases e with
  | Name n p => exact ⟨rfl, rfl, fun q => by show (List.findIdx? _ ((false, _) :: assignEach es env)) = none; rw [List.findIdx?_cons]; simp [q]⟩
  | Tuple a b c => exact ⟨rfl, rfl, fun q => by show (List.findIdx? _ ((false, _) :: assignEach es env)) = none; rw [List.findIdx?_cons]; simp [q]⟩
  | Subscript a b c => exact ⟨rfl, rfl, fun q => by show (List.findIdx? _ ((false, _) :: assignEach es env)) = none; rw [List.findIdx?_cons]; simp [q]⟩
  | _ => simp [simpT] at h
theorem gTup_ok {xa : Ex} {raw : Bool} {own : List Nat} {a : Expr} (sa : CSound ct G F Γ k fdm xa) (xo : XOk ct G F Γ k fdm X W vw) (h : gTup (chk G xa).gs vw raw own a = true) : PG X a (TGc X.K ct raw own (ev G.P F Γ (.tup xa)).g) := by
  cases a with
  | Tuple es kk p =>
    have h : (!vw.hot && (chk G xa).gs vw own es) = true := h
    rw [Bool.and_eq_true, Bool.not_eq_true'] at h
    obtain ⟨hc, h⟩ := h
    obtain ⟨h1, h2⟩ := sa.gl vw own es h
    exact g_tup (xo.cold hc).calm (h2 _).1 (h2 _).2 h1 (sa.gs _ _ _ _ _ xo h)
  | _ => simp [gTup] at h
end
end Sb
set_option linter.all false
set_option maxRecDepth 20000
set_option maxHeartbeats 2000000
set_option autoImplicit false
/-! AG: own ==, str, classmethods: the check is right. -/
namespace Sb
open PySem PySem.Spec PyProof.Rows L2
section
variable {ct : CT} {G : Sc} {F : Fsem} {Γ : List Clo} {k : Nat} {fdm : Nat → FuncData} {X : Cx} {W : WX} {vw : Vw} {m : Mo}
theorem cStro_ok {xa : Ex} {a : Expr} (sa : CSound ct G F Γ k fdm xa) (xo : XOk ct G F Γ k fdm X W vw) (hc : vw.hot = false) (h : cStro (chk G xa).e vw m a = true) : PE X a (TE_ X.K ct W m (ev G.P F Γ (.stro xa)).e) := by
  unfold cStro at h
  split at h
  · simp only [Bool.and_eq_true, decide_eq_true_eq] at h
    obtain ⟨rfl, hg, hs, hl⟩ := h
    exact x_stro xo.gf.cf (xo.cold hc).fa xo.gf.ps (xo.cold hc).room2 xo.un (xo.glob hg).1 (xo.bi_none (by decide)) (starEach_cons hs) (sa.e _ _ _ _ _ xo hl)
  · cases h
theorem cEqo_ok {ne : Bool} {xa xb : Ex} {a : Expr} (sa : CSound ct G F Γ k fdm xa) (sb : CSound ct G F Γ k fdm xb) (xo : XOk ct G F Γ k fdm X W vw) (h : cEqo ne (chk G xa).e (chk G xb).e vw a = true) : PE X a (TE_ X.K ct W m (ev G.P F Γ (.eqo ne xa xb)).e) ∧ PT X a (TT_ X.K ct W (ev G.P F Γ (.eqo ne xa xb)).t) := by
  unfold cEqo at h
  split at h
  · simp only [Bool.and_eq_true, decide_eq_true_eq, Bool.not_eq_true'] at h
    obtain ⟨hc, rfl, h0, h1, h2⟩ := h
    have ho := op_eqo (X := X) (ne := ne) xo.gf.cf (xo.cold hc).fa xo.gf.pe (xo.cold hc).room xo.un
    exact ⟨x_eqo ho h0 (sa.e _ _ _ _ _ xo h1) (sb.e _ _ _ _ _ xo h2), t_eqo ho h0 (sa.e _ _ _ _ _ xo h1) (sb.e _ _ _ _ _ xo h2)⟩
  · cases h
theorem cIno_ok {ng : Bool} {xa xb : Ex} {a : Expr} (sa : CSound ct G F Γ k fdm xa) (sb : CSound ct G F Γ k fdm xb) (xo : XOk ct G F Γ k fdm X W vw) (h : cIno ng (chk G xa).e (chk G xb).e vw a = true) : PE X a (TE_ X.K ct W m (ev G.P F Γ (.inso ng xa xb)).e) ∧ PT X a (TT_ X.K ct W (ev G.P F Γ (.inso ng xa xb)).t) := by
  unfold cIno at h
  split at h
  · simp only [Bool.and_eq_true, decide_eq_true_eq, Bool.not_eq_true'] at h
    obtain ⟨hc, rfl, h0, h1, h2⟩ := h
    have ho := op_ino (X := X) (ng := ng) xo.gf.cf (xo.cold hc).fa xo.gf.ph (xo.cold hc).room
    exact ⟨x_ino ho h0 (sa.e _ _ _ _ _ xo h1) (sb.e _ _ _ _ _ xo h2), t_ino ho h0 (sa.e _ _ _ _ _ xo h1) (sb.e _ _ _ _ _ xo h2)⟩
  · cases h
theorem cBoolo_ok {xa : Ex} {a : Expr} (sa : CSound ct G F Γ k fdm xa) (xo : XOk ct G F Γ k fdm X W vw) (hc : vw.hot = false) (h : cBoolo (chk G xa).e vw m a = true) : PE X a (TE_ X.K ct W m (ev G.P F Γ (.boolo xa)).e) := by
  unfold cBoolo at h
  split at h
  · simp only [Bool.and_eq_true, decide_eq_true_eq] at h
    obtain ⟨rfl, hg, hs, hl⟩ := h
    exact x_boolo xo.gf.cf (xo.cold hc).fa xo.gf.pb (xo.cold hc).room2 (xo.glob hg).1 (xo.bi_none (by decide)) (starEach_cons hs) (sa.e _ _ _ _ _ xo hl)
  · cases h
theorem cMkv_ok {c i : Nat} {xa : Ex} {a : Expr} (sa : CSound ct G F Γ k fdm xa) (xo : XOk ct G F Γ k fdm X W vw) (hc : vw.hot = false) (h : cMkv G c i (isNil xa) (chk G xa).l vw m a = true) : PE X a (TE_ X.K ct W m (ev G.P F Γ (.mkv c i xa)).e) := by
  unfold cMkv at h
  split at h
  · split at h
    · rename_i cl hcl
      split at h
      · rename_i fn hfn
        simp only [Bool.and_eq_true, Bool.or_eq_true, decide_eq_true_eq, Bool.not_eq_true'] at h
        obtain ⟨g, h2, h4, h5, ⟨h6, h6'⟩, h7⟩ := h
        obtain ⟨t1, t2, t3, t4⟩ := xo.slot g
        refine x_mkv hcl hfn (xo.gf.cf _ _ hcl) (xo.cold hc).fa h2 h6' (xo.cold hc).room xo.tk t1 t2 t3 t4 h6 (star_cond (kws := []) h4 (by rfl)) (fun he => ?_) (star_head h4) (sa.l _ _ _ _ _ xo h7)
        rcases h5 with h5 | h5
        · rw [he] at h5; cases h5
        · exact isNil_ok h5
      · cases h
    · cases h
  · cases h
theorem few_kw {env : PySem.Env} {pos : Pos} {kws : List Keyword} (h : kws.all (fun k => (kwN k).isSome) = true) (hl : kws.length < 20) : methodCallForm (([] : List Expr).length + kws.length) (backTo pos (starEach [] env)) (backToKw pos (keywordEach kws env)) = true := by
  unfold methodCallForm
  rw [(kw_isSome (env := env) (pos := pos) h).1]
  show (true && true && decide (0 + kws.length + (if (backToKw pos (keywordEach kws env)).isEmpty = true then 0 else 1) < 30)) = true
  split <;> simp <;> omega
theorem cCmt_ok {c f : Nat} {ks : List Nat} {xa xb : Ex} {a : Expr} (sa : CSound ct G F Γ k fdm xa) (sb : CSound ct G F Γ k fdm xb) (xo : XOk ct G F Γ k fdm X W vw) (hc : vw.hot = false) (h : cCmt G c f (isNil xb) ks (chk G xa).l (isNil xa) (chk G xb).lk vw m a = true) : PE X a (TE_ X.K ct W m (ev G.P F Γ (.cmt c f xa xb ks)).e) := by
  unfold cCmt at h
  split at h
  · split at h
    · rename_i fn hfn
      simp only [Bool.and_eq_true, decide_eq_true_eq] at h
      obtain ⟨g, h1, h2, h3, h4, h5, h6, h7, ⟨h8, rfl⟩, h9, h10⟩ := h
      obtain rfl := isNil_ok h9
      obtain ⟨g1, g2⟩ := xo.glob g
      obtain ⟨mc, pr, r, cm⟩ := xo.gf.cm _ _ _ h2
      have h7' := h7
      rw [List.all_cons, Bool.and_eq_true] at h7'
      exact x_cmt hfn r cm (xo.cold hc).fa h3 h4 (xo.cold hc).room xo.tk g1 (xo.gf.kl _ _ h1) g2 h8 (base_ok (by rfl)) (few_ok h7 h5) h6 (starEach_cons h7'.1) (starEach_any h7'.2) (sa.l _ _ _ _ _ xo h10)
    · cases h
  · split at h
    · rename_i fn hfn
      simp only [Bool.and_eq_true, decide_eq_true_eq] at h
      obtain ⟨g, h1, h2, h3, h4, h5, h6, h8, h9, h10⟩ := h
      obtain rfl := isNil_ok h9
      obtain ⟨g1, g2⟩ := xo.glob g
      obtain ⟨mc, pr, r, cm⟩ := xo.gf.cm _ _ _ h2
      obtain ⟨k1, k2, k3⟩ := kw_isSome (env := X.env) (pos := by assumption) h4
      exact x_cmtk hfn r cm (xo.cold hc).fa h3 (kw_len h4) (xo.cold hc).room xo.tk g1 (xo.gf.kl _ _ h1) g2 h8 (base_ok (by rfl)) k1 k3 (few_kw h4 h5) h6 (star_cond (es := []) (by rfl) h4) (sb.lk _ _ _ _ xo h10)
    · cases h
  · cases h
theorem cLstar_ok {xa xb : Ex} {a : Expr} (sa : CSound ct G F Γ k fdm xa) (sb : CSound ct G F Γ k fdm xb) (xo : XOk ct G F Γ k fdm X W vw) (h : cLstar (chk G xa).e (chk G xb).e vw m a = true) : PE X a (TE_ X.K ct W m (ev G.P F Γ (.lstar (.cons xa .nil) xb)).e) := by
  unfold cLstar at h
  split at h
  · simp only [Bool.and_eq_true] at h
    exact x_lstar (starEach_cons h.1) (sa.e _ _ _ _ _ xo h.2.1) (sb.e _ _ _ _ _ xo h.2.2)
  · cases h
end
end Sb
set_option linter.all false
set_option maxRecDepth 20000
set_option maxHeartbeats 4000000
set_option autoImplicit false
/-! A24: the check of expressions is right, all. -/
namespace Sb
open PySem PySem.Spec PyProof.Rows L2
section
variable {ct : CT} {G : Sc} {F : Fsem} {Γ : List Clo} {k : Nat} {fdm : Nat → FuncData}
/-- nothing is checked: nothing is promised -/
theorem CSound.none {x : Ex} (h : chk G x = {}) : CSound ct G F Γ k fdm x := by
  refine ⟨fun X W vw m a xo q => ?_, fun X W vw a xo q => ?_, fun X W vw m es xo q => ?_, fun X W vw ks xo q => ?_, fun X W vw st tg a xo q => ?_, fun X W vw raw own a xo q => ?_, fun X W vw own es xo q => ?_, fun vw own es q => ?_, fun X W vw a xo q => ?_⟩ <;> (rw [h] at q; cases q)
theorem CSound.onlyI {x : Ex} {ci : Vw → Bool → Expr → Expr → Bool} (h : chk G x = { i := ci }) (hi : ∀ X W vw st tg a, XOk ct G F Γ k fdm X W vw → ci vw st tg a = true → PI X tg a (TI_ X.K ct W st (rawOf x) (ev G.P F Γ x).i)) : CSound ct G F Γ k fdm x := by
  refine ⟨fun X W vw m a xo q => ?_, fun X W vw a xo q => ?_, fun X W vw m es xo q => ?_, fun X W vw ks xo q => ?_, fun X W vw st tg a xo q => ?_, fun X W vw raw own a xo q => ?_, fun X W vw own es xo q => ?_, fun vw own es q => ?_, fun X W vw a xo q => ?_⟩ <;> rw [h] at q
  · cases q
  · cases q
  · cases q
  · cases q
  · exact hi _ _ _ _ _ _ xo q
  · cases q
  · cases q
  · cases q
  · cases q
/-- with a test of its own -/
theorem CSound.withT {x : Ex} {c : Vw → Mo → Expr → Bool} {ctt : Vw → Expr → Bool} (hx : x ≠ .nil) (hch : chk G x = { cVal c with t := ctt }) (hi : (ev G.P F Γ x).i = fun ρ S Q E => (ev G.P F Γ x).e ρ S (fun d S => itemsD d fun xs => Q xs S) E)
    (he : ∀ X W vw m a, XOk ct G F Γ k fdm X W vw → c vw m a = true → PE X a (TE_ X.K ct W m (ev G.P F Γ x).e)) (ht : ∀ X W vw a, XOk ct G F Γ k fdm X W vw → ctt vw a = true → PT X a (TT_ X.K ct W (ev G.P F Γ x).t)) : CSound ct G F Γ k fdm x := by
  refine ⟨fun X W vw m a xo h => ?_, fun X W vw a xo h => ?_, fun X W vw m es xo h => ?_, fun X W vw ks xo h => ?_, fun X W vw st tg a xo h => ?_, fun X W vw raw own a xo h => ?_, fun X W vw own es xo h => ?_, fun vw own es h => ?_, fun X W vw a xo h => ?_⟩ <;> rw [hch] at h
  · exact he X W vw m a xo h
  · exact ht X W vw a xo h
  · cases h
  · cases h
  · exact i_val hi (he X W vw (sm st) a xo h)
  · cases h
  · cases h
  · cases h
  · cases a with
    | none => cases h
    | some a => exact o_some hx (he X W vw .dn a xo h)
/-- with a target of its own -/
theorem CSound.withG {x : Ex} {c : Vw → Mo → Expr → Bool} {cg : Vw → Bool → List Nat → Expr → Bool} (hx : x ≠ .nil) (hch : chk G x = { cVal c with g := cg }) (ht : (ev G.P F Γ x).t = fun ρ S Q E => (ev G.P F Γ x).e ρ S (fun d S => truX G.P F Γ d S Q E) E) (hi : (ev G.P F Γ x).i = fun ρ S Q E => (ev G.P F Γ x).e ρ S (fun d S => itemsD d fun xs => Q xs S) E)
    (he : ∀ X W vw m a, XOk ct G F Γ k fdm X W vw → c vw m a = true → PE X a (TE_ X.K ct W m (ev G.P F Γ x).e)) (hg : ∀ X W vw raw own a, XOk ct G F Γ k fdm X W vw → cg vw raw own a = true → PG X a (TGc X.K ct raw own (ev G.P F Γ x).g)) : CSound ct G F Γ k fdm x := by
  refine ⟨fun X W vw m a xo h => ?_, fun X W vw a xo h => ?_, fun X W vw m es xo h => ?_, fun X W vw ks xo h => ?_, fun X W vw st tg a xo h => ?_, fun X W vw raw own a xo h => ?_, fun X W vw own es xo h => ?_, fun vw own es h => ?_, fun X W vw a xo h => ?_⟩ <;> rw [hch] at h
  · exact he X W vw m a xo h
  · have h : (plainT a && c vw .bn a) = true := h
    rw [Bool.and_eq_true] at h
    exact t_val (plainT_ok h.1) ht (he X W vw .bn a xo h.2)
  · cases h
  · cases h
  · exact i_val hi (he X W vw (sm st) a xo h)
  · exact hg _ _ _ _ _ _ xo h
  · cases h
  · cases h
  · cases a with
    | none => cases h
    | some a => exact o_some hx (he X W vw .dn a xo h)
theorem sound_nil : CSound ct G F Γ k fdm .nil := by
  refine ⟨fun X W vw m a xo h => ?_, fun X W vw a xo h => ?_, fun X W vw m es xo h => ?_, fun X W vw ks xo h => ?_, fun X W vw st tg a xo h => ?_, fun X W vw raw own a xo h => ?_, fun X W vw own es xo h => ?_, fun vw own es h => ?_, fun X W vw a xo h => ?_⟩
  · cases h
  · cases h
  · have h : (es.isEmpty && decide (m ≠ .fr)) = true := h
    rw [Bool.and_eq_true] at h
    cases es with
    | nil => exact l_nil
    | cons _ _ => cases h.1
  · cases ks with
    | nil => exact k_nil
    | cons _ _ => cases h
  · cases h
  · cases h
  · cases es with
    | nil => exact gs_nil
    | cons _ _ => cases h
  · cases es with
    | nil => exact ⟨rfl, fun env => ⟨rfl, rfl⟩⟩
    | cons _ _ => cases h
  · cases a with
    | none => exact o_none
    | some _ => cases h
theorem sound_cons {a r : Ex} (sa : CSound ct G F Γ k fdm a) (sr : CSound ct G F Γ k fdm r) : CSound ct G F Γ k fdm (.cons a r) := by
  refine ⟨fun X W vw m a xo h => ?_, fun X W vw a xo h => ?_, fun X W vw m es xo h => ?_, fun X W vw ks xo h => ?_, fun X W vw st tg a xo h => ?_, fun X W vw raw own a xo h => ?_, fun X W vw own es xo h => ?_, fun vw own es h => ?_, fun X W vw a xo h => ?_⟩
  · cases h
  · cases h
  · cases es with
    | nil => cases h
    | cons e es =>
      have h : (decide (m ≠ .fr) && (notStar e && ((chk G a).e vw m e && (chk G r).l vw m es))) = true := h
      simp only [Bool.and_eq_true, decide_eq_true_eq] at h
      exact l_cons h.1 (starEach_cons h.2.1) (sa.e _ _ _ _ _ xo h.2.2.1) (sr.l _ _ _ _ _ xo h.2.2.2)
  · cases ks with
    | nil => cases h
    | cons q ks =>
      obtain ⟨nm, v, p⟩ := q
      have h : ((chk G a).e vw .an v && (chk G r).lk vw ks) = true := h
      rw [Bool.and_eq_true] at h
      exact k_cons (by decide) (sa.e _ _ _ _ _ xo h.1) (sr.lk _ _ _ _ xo h.2)
  · cases h
  · cases h
  · cases es with
    | nil => cases h
    | cons e es =>
      have h : (simpT e && ((chk G a).g vw false own e && (chk G r).gs vw own es)) = true := h
      simp only [Bool.and_eq_true] at h
      exact gs_cons (assign_one h.1).1 (sa.g _ _ _ _ _ _ xo h.2.1) (sr.gs _ _ _ _ _ xo h.2.2)
  · cases es with
    | nil => cases h
    | cons e es =>
      have h : (simpT e && ((chk G a).g vw false own e && (chk G r).gs vw own es)) = true := h
      simp only [Bool.and_eq_true] at h
      obtain ⟨h1, h2⟩ := sr.gl vw own es h.2.2
      refine ⟨by show exLen r + 1 = es.length + 1; rw [h1], fun env => ⟨?_, (assign_one h.1).2.2 (h2 env).2⟩⟩
      · rw [(assign_one h.1).2.1, (h2 env).1]; rfl
  · cases h
theorem chk_sound : ∀ x : Ex, CSound ct G F Γ k fdm x
  | .nil => sound_nil
  | .cons a r => sound_cons (chk_sound a) (chk_sound r)
  | .cst c => val_sound (by intro h; cases h) rfl rfl rfl fun X W vw m a xo h => cCst_ok h
  | .var i => .withG (by intro h; cases h) rfl rfl rfl (fun X W vw m a xo h => cVar_ok xo h) fun X W vw raw own a xo h => gVar_ok xo h
  | .bvar i => val_sound (by intro h; cases h) rfl rfl rfl fun X W vw m a xo h => cBvar_ok xo h
  | .lend i => val_sound (by intro h; cases h) rfl rfl rfl fun X W vw m a xo h => cLend_ok xo h
  | .mkown a => val_sound (by intro h; cases h) rfl rfl rfl fun X W vw m e xo h => by
      rw [Bool.and_eq_true, decide_eq_true_eq] at h
      obtain ⟨rfl, h⟩ := h
      exact x_mkown ((chk_sound a).e _ _ _ _ _ xo h)
  | .box a => val_sound (by intro h; cases h) rfl rfl rfl fun X W vw m e xo h => by
      rw [Bool.and_eq_true, decide_eq_true_eq] at h
      exact x_box h.1 ((chk_sound a).e _ _ _ _ _ xo h.2)
  | .srl a => val_sound (by intro h; cases h) rfl rfl rfl fun X W vw m e xo h => cSrl_ok (chk_sound a) xo (cold_ok h).1 (cold_ok h).2
  | .glob g => val_sound (by intro h; cases h) rfl rfl rfl fun X W vw m a xo h => cGlob_ok xo h
  | .bin o a b => val_sound (by intro h; cases h) rfl rfl rfl fun X W vw m e xo h => cBin_ok (chk_sound a) (chk_sound b) xo h
  | .neg a => val_sound (by intro h; cases h) rfl rfl rfl fun X W vw m e xo h => cNeg_ok (chk_sound a) xo h
  | .cmp o a b => .withT (by intro h; cases h) rfl rfl (fun X W vw m e xo h => (cCmp_ok (chk_sound a) (chk_sound b) xo h).1) fun X W vw e xo h => (cCmp_ok (m := .dn) (chk_sound a) (chk_sound b) xo h).2
  | .cmp2 o o2 a b c => .withT (by intro h; cases h) rfl rfl (fun X W vw m e xo h => (cCmp2_ok (chk_sound a) (chk_sound b) (chk_sound c) xo h).1) fun X W vw e xo h => (cCmp2_ok (m := .dn) (chk_sound a) (chk_sound b) (chk_sound c) xo h).2
  | .and a b => .withT (by intro h; cases h) rfl rfl (fun X W vw m e xo h => cBool_ok (b := true) (chk_sound a) (chk_sound b) xo h) fun X W vw e xo h => cBoolT_ok (b := true) (chk_sound a) (chk_sound b) xo h
  | .or a b => .withT (by intro h; cases h) rfl rfl (fun X W vw m e xo h => cBool_ok (b := false) (chk_sound a) (chk_sound b) xo h) fun X W vw e xo h => cBoolT_ok (b := false) (chk_sound a) (chk_sound b) xo h
  | .not a => .withT (by intro h; cases h) rfl rfl (fun X W vw m e xo h => cNot_ok (chk_sound a) xo h) fun X W vw e xo h => cNotT_ok (chk_sound a) xo h
  | .ife c a b => val_sound (by intro h; cases h) rfl rfl rfl fun X W vw m e xo h => cIfe_ok (chk_sound c) (chk_sound a) (chk_sound b) xo h
  | .lst es => val_sound (by intro h; cases h) rfl rfl rfl fun X W vw m e xo h => cLst_ok (chk_sound es) xo h
  | .tup es => .withG (by intro h; cases h) rfl rfl rfl (fun X W vw m e xo h => cTup_ok (chk_sound es) xo h) fun X W vw raw own e xo h => gTup_ok (chk_sound es) xo h
  | .ix a b => val_sound (by intro h; cases h) rfl rfl rfl fun X W vw m e xo h => cIx_ok (chk_sound a) (chk_sound b) xo h
  | .sl a l h => val_sound (by intro h; cases h) rfl rfl rfl fun X W vw m e xo q => cSl_ok (chk_sound a) (chk_sound l) (chk_sound h) xo q
  | .rev a => val_sound (by intro h; cases h) rfl rfl rfl fun X W vw m e xo h => cRev_ok (chk_sound a) xo h
  | .attr a n => val_sound (by intro h; cases h) rfl rfl rfl fun X W vw m e xo h => cAttr_ok (chk_sound a) xo (cold_ok h).1 (cold_ok h).2
  | .call f es kes idx => val_sound (by intro h; cases h) rfl rfl rfl fun X W vw m e xo h => cCall_ok (chk_sound es) (chk_sound kes) xo h
  | .mk c es kes idx => val_sound (by intro h; cases h) rfl rfl rfl fun X W vw m e xo h => cMk_ok (chk_sound es) (chk_sound kes) xo (cold_ok h).1 (cold_ok h).2
  | .mt mt a es => val_sound (by intro h; cases h) rfl rfl rfl fun X W vw m e xo h => cMt_ok (chk_sound a) (chk_sound es) xo h
  | .isi a ts => val_sound (by intro h; cases h) rfl rfl rfl fun X W vw m e xo h => cIsi_ok (chk_sound a) xo h
  | .comp t it c e own => val_sound (by intro h; cases h) rfl rfl rfl fun X W vw m a xo h => cComp_ok (chk_sound t) (chk_sound it) (chk_sound c) (chk_sound e) xo (cold_ok h).1 (cold_ok h).2
  | .comp2 t it c t2 it2 c2 e own own2 => val_sound (by intro h; cases h) rfl rfl rfl fun X W vw m a xo h => cComp2_ok (chk_sound t) (chk_sound it) (chk_sound c) (chk_sound t2) (chk_sound it2) (chk_sound c2) (chk_sound e) xo (cold_ok h).1 (cold_ok h).2
  | .isx a kk y l => val_sound (by intro h; cases h) rfl rfl rfl fun X W vw m e xo h => cIsx_ok (chk_sound a) xo h
  | .attx a n => val_sound (by intro h; cases h) rfl rfl rfl fun X W vw m e xo h => cAttx_ok (chk_sound a) xo h
  | .lamc f b => val_sound (by intro h; cases h) rfl rfl rfl fun X W vw m e xo h => cLamc_ok (chk_sound b) xo (cold_ok h).1 (cold_ok h).2
  | .sdl l => val_sound (by intro h; cases h) rfl rfl rfl fun X W vw m e xo h => cSdl_ok h
  | .inso ng a b => .withT (by intro h; cases h) rfl rfl (fun X W vw m e xo h => (cIno_ok (chk_sound a) (chk_sound b) xo h).1) fun X W vw e xo h => (cIno_ok (m := .dn) (chk_sound a) (chk_sound b) xo h).2
  | .boolo a => val_sound (by intro h; cases h) rfl rfl rfl fun X W vw m e xo h => cBoolo_ok (chk_sound a) xo (cold_ok h).1 (cold_ok h).2
  | .stro a => val_sound (by intro h; cases h) rfl rfl rfl fun X W vw m e xo h => cStro_ok (chk_sound a) xo (cold_ok h).1 (cold_ok h).2
  | .eqo ne a b => .withT (by intro h; cases h) rfl rfl (fun X W vw m e xo h => (cEqo_ok (chk_sound a) (chk_sound b) xo h).1) fun X W vw e xo h => (cEqo_ok (m := .dn) (chk_sound a) (chk_sound b) xo h).2
  | .mkv c i es => val_sound (by intro h; cases h) rfl rfl rfl fun X W vw m e xo h => cMkv_ok (chk_sound es) xo (cold_ok h).1 (cold_ok h).2
  | .cmt c f es kes ks => val_sound (by intro h; cases h) rfl rfl rfl fun X W vw m e xo h => cCmt_ok (chk_sound es) (chk_sound kes) xo (cold_ok h).1 (cold_ok h).2
  | .up a => val_sound (by intro h; cases h) rfl rfl rfl fun X W vw m e xo h => cUp_ok (chk_sound a) xo h
  | .rng1 a => .onlyI rfl fun X W vw st tg e xo h => cRng1_ok (chk_sound a) xo h
  | .rng2 a b => .onlyI rfl fun X W vw st tg e xo h => cRng2_ok (chk_sound a) (chk_sound b) xo h
  | .enum a => .onlyI rfl fun X W vw st tg e xo h => cEnum_ok (chk_sound a) xo h
  | .zip es => .onlyI rfl fun X W vw st tg e xo h => cZip_ok (chk_sound es) xo h
  | .bi b es => by
    have gen : (chk G (.bi b es) = cVal (cBi b (chk G es).l)) → CSound ct G F Γ k fdm (.bi b es) := fun hc => val_sound (by intro h; cases h) hc rfl rfl fun X W vw m e xo h => cBi_ok (chk_sound es) xo h
    cases b with
    | len =>
      cases es with
      | cons a r =>
        cases r with
        | nil => exact val_sound (by intro h; cases h) rfl rfl rfl fun X W vw m e xo h => cLen_ok (chk_sound a) xo (cold_ok h).1 (cold_ok h).2
        | _ => exact gen rfl
      | _ => exact gen rfl
    | _ => exact gen rfl
  | .dict _ _ => .none rfl
  | .callv _ _ => .none rfl
  | .callc _ _ _ _ _ _ _ => .none rfl
  | .umt _ _ _ _ _ => .none rfl
  | .dcomp _ _ _ _ _ => .none rfl
  | .yes => .none rfl
  | .items _ => .none rfl
  | .listof _ => .none rfl
  | .tupof _ => .none rfl
  | .sortk _ _ _ _ => .none rfl
  | .lstar es b => by
    cases es with
    | cons a r =>
      cases r with
      | nil => exact val_sound (by intro h; cases h) rfl rfl rfl fun X W vw m e xo h => cLstar_ok (chk_sound a) (chk_sound b) xo h
      | _ => exact .none rfl
    | _ => exact .none rfl
end
end Sb
set_option linter.all false
set_option maxRecDepth 20000
set_option maxHeartbeats 4000000
set_option autoImplicit false
/-! A25: the check of statements. -/
namespace Sb
open PySem PySem.Spec PyProof.Rows L2
def notComp : Expr → Bool | .ListComp _ _ _ _ => false | .SetComp _ _ _ _ => false | .DictComp _ _ _ _ _ => false | _ => true
def noSl : Expr → Bool | .Slice _ _ _ _ => false | _ => true
def notTup : Expr → Bool | .Tuple _ _ _ => false | _ => true
theorem notComp_ok {a : Expr} {t : Option Expr} {l : Nat} {env : PySem.Env} (h : notComp a = true) : swapsWith a t l env = pure false := by
  cases a <;> first | rfl | (simp [notComp] at h)
def swB (vw : Vw) (t : Str) (pos cpos : Pos) (scope : Scope) : Bool :=
  vw.sc.names.lookup t == some .local && pos.line == cpos.line && !(scope.names.any fun (n, k) => n == t && (k == .local || k == .cell))
theorem swB_ok {vw : Vw} {t : Str} {pos cpos : Pos} {scope : Scope} {elt : Expr} {gens : List Comprehension} {l : Nat} {env : PySem.Env} (hs : env.scope = vw.sc) (hk : vw.sc.kind = .function) : swapsWith (.ListComp elt gens scope cpos) (some (.Name t pos)) l env = pure (swB vw t pos cpos scope) := by
  have e1 : env.blockKind = .function := by
    unfold Env.blockKind
    rw [hs, hk]; rfl
  show (pure (env.blockKind == .function && env.kindOf t == some .local && pos.line == cpos.line && !(scope.names.any fun (n, k) => n == t && (k == .local || k == .cell))) : Sem Bool) = _
  rw [e1]
  unfold Env.kindOf
  rw [hs]
  rfl
/-- targets of statements -/
structure GR where
  g : Vw → Bool → Expr → Bool := fun _ _ _ => false
  gs : Vw → List Expr → Bool := fun _ _ => false
def chkG (G : Sc) : Ex → GR
  | .var i => { g := fun vw raw a => match a with
      | .Name n _ => !raw && tgtB G vw i n
      | _ => false }
  | .tup es => { g := fun vw raw a => match a with
      | .Tuple es' _ _ => !vw.hot && (chkG G es).gs vw es'
      | _ => false }
  | .ix (.var i) xi => { g := fun vw raw a => match a with
      | .Subscript (.Name n _) ei _ => !raw && (slotB G vw i n && (noSl ei && (chk G xi).e vw .dn ei))
      | _ => false }
  | .nil => { gs := fun _ es => es.isEmpty }
  | .cons a r => { gs := fun vw es => match es with
      | e :: es => simpT e && ((chkG G a).g vw false e && (chkG G r).gs vw es)
      | [] => false }
  | _ => {}
structure SR where
  s : Vw → Bool → Stmt → Bool := fun _ _ _ => false
  ss : Vw → Bool → List Stmt → Bool := fun _ _ _ => false
def isComp : Ex → Bool
  | .comp _ _ _ _ _ => true | .comp2 _ _ _ _ _ _ _ _ _ => true | _ => false
/-- name = [..], stored as a comprehension does -/
def setC (G : Sc) (vw : Vw) (e : Ex) (a : Expr) : Bool := match e with
  | .mkown x => isComp x && (chk G x).e vw .fr a
  | x => isComp x && (chk G x).e vw .ow a
def notName : Expr → Bool | .Name _ _ => false | _ => true
/-- targets that are not stored crosswise -/
def sw0 (vw : Vw) (es : List Expr) : Expr → Bool
  | .Tuple vs _ _ => vs.all (foldedForSure 8) || (match es with
    | [.Name x _, .Name y _] => !decide (vw.sc.names.lookup x = some .local ∧ vw.sc.names.lookup y = some .local)
    | [.Name x _, .Name y _, .Name z _] => !decide (vw.sc.names.lookup x = some .local ∧ vw.sc.names.lookup y = some .local ∧ vw.sc.names.lookup z = some .local)
    | ts => ts.any notName || decide (ts.length ≠ 2 ∧ ts.length ≠ 3))
  | _ => true
def isVar : Ex → Option Nat | .var i => some i | _ => none
def cAsg (G : Sc) (t e : Ex) (vw : Vw) : Stmt → Bool
  | .Assign [tg] a pos => match isVar t, tg with
    | some i, .Name n p => tgtB G vw i n && (match a with
      | .ListComp _ _ scope cpos => decide (vw.sc.kind = .function) && (if swB vw n p cpos scope = true then setC G vw e a else (chk G e).e vw .ow a)
      | a => notComp a && (chk G e).e vw .ow a)
    | none, .Tuple es k p => notComp a && (sw0 vw es a && ((chkG G t).g vw false (.Tuple es k p) && (chk G e).e vw .dn a))
    | none, .Subscript o i p => notComp a && ((chkG G t).g vw false (.Subscript o i p) && (chk G e).e vw .dn a)
    | _, _ => false
  | _ => false
def parW (x y : List Str) (vs : List Expr) (lines : List Nat) : Bool :=
  decide (x.eraseDups.length = x.length) && (lines.all (fun l => l == lines.headD 0) && !(vs.all (foldedForSure 8)) && !(vs.all (constantsAlone 8)))
def cPar (G : Sc) (is : List Nat) (es : Ex) (vw : Vw) : Stmt → Bool
  | .Assign [.Tuple [.Name x px, .Name y py] kt pt] (.Tuple [a, b] k2 p2) pos => match is with
    | [i, j] => (!vw.hot && decide (vw.sc.kind = .function)) && (decide (G.N[i]? = some x ∧ G.N[j]? = some y) && (decide (i ≠ j ∧ x ≠ y) && (decide (vw.sc.names.lookup x = some .local ∧ vw.sc.names.lookup y = some .local) && (decide (py.line = px.line) && (notStar a && (notStar b &&
      (!([a, b].all (foldedForSure 8)) && (!([a, b].all (constantsAlone 8)) && (chk G es).l vw .ow [a, b]))))))))
    | _ => false
  | .Assign [.Tuple [.Name x px, .Name y py, .Name z pz] kt pt] (.Tuple [a, b, c] k2 p2) pos => match is with
    | [i, j, l] => (!vw.hot && decide (vw.sc.kind = .function)) && (decide (G.N[i]? = some x ∧ G.N[j]? = some y ∧ G.N[l]? = some z) && (decide (i ≠ j ∧ i ≠ l ∧ j ≠ l ∧ x ≠ y ∧ x ≠ z ∧ y ≠ z) && (decide (vw.sc.names.lookup x = some .local ∧ vw.sc.names.lookup y = some .local ∧ vw.sc.names.lookup z = some .local) && (decide (py.line = px.line ∧ pz.line = px.line) && (notStar a && (notStar b && (notStar c &&
      (!([a, b, c].all (foldedForSure 8)) && (!([a, b, c].all (constantsAlone 8)) && (chk G es).l vw .ow [a, b, c])))))))))
    | _ => false
  | _ => false
/-- .. and through a tuple -/
def cNames (G : Sc) (vw : Vw) : List Nat → List Expr → Bool
  | [], [] => true
  | i :: is, .Name n _ :: ts => tgtB G vw i n && cNames G vw is ts
  | _, _ => false
def cParT (G : Sc) (is : List Nat) (es : Ex) (vw : Vw) : Stmt → Bool
  | .Assign [.Tuple ts kt pt] (.Tuple as k2 p2) pos => (!vw.hot && decide (is.length ≤ 20)) && (decide (as.length = is.length) && (sw0 vw ts (.Tuple as k2 p2) && (cNames G vw is ts && (chk G es).l vw .ow as)))
  | _ => false
def cApp (G : Sc) (i : Nat) (e : Ex) (vw : Vw) : Stmt → Bool
  | .Expr (.Call (.Attribute (.Name n _) f apos) [a] [] cpos) _ => decide (f = "append") && (slotB G vw i n && (decide ((apos.endLine == cpos.line) = true) && (notStar a && (chk G e).e vw .dn a)))
  | _ => false
def cSetAt (G : Sc) (i n : Nat) (e : Ex) (vw : Vw) : Stmt → Bool
  | .Assign [.Attribute (.Name x _) f _] a _ => decide (G.ats[n]? = some f) && (slotB G vw i x && (notComp a && (chk G e).e vw .dn a))
  | _ => false
/-- x = act() -/
def cAct (G : Sc) (t e : Ex) (vw : Vw) : Stmt → Bool
  | .Assign [.Name n _] (.Call (.Name a _) [] [] _) _ => match t, e with
    | .var i, .callv j .nil => (G.clo && !vw.hot) && (tgtB G vw i n && slotB G vw j a)
    | _, _ => false
  | _ => false
def cRaise (G : Sc) (c : Nat) (e : Ex) (vw : Vw) : Stmt → Bool
  | .Raise (some (.Call (.Name x _) [a] [] _)) none _ => !vw.hot && (globB vw x && (decide ((x, c) ∈ G.kls) && (decide (c ∈ G.xrs) && (notStar a && (chk G e).l vw .dn [a]))))
  | _ => false
/-- try: .. except (A, B, C) as n: .. -/
def cTry (G : Sc) (cs l : List Nat) (x : Nat) (cb ch : Vw → Bool → List Stmt → Bool) (vw : Vw) (fr : Bool) : Stmt → Bool
  | .Try body [.ExceptHandler (some (.Tuple [.Name x1 _, .Name x2 _, .Name x3 _] _ _)) (some n) (b₀ :: suite) _] [] [] _ => match cs with
    | [c1, c2, c3] => !vw.hot && (decide (([c1, c2, c3], l) ∈ G.xms) && ((decide (G.N[x]? = some n) && decide (vw.sc.names.lookup n = some .local)) && ((globB vw x1 && (globB vw x2 && globB vw x3)) && ((decide ((x1, c1) ∈ G.kls) && (decide ((x2, c2) ∈ G.kls) && decide ((x3, c3) ∈ G.kls))) &&
        (cb vw fr body && ch { vw with hot := true } fr (b₀ :: suite))))))
    | _ => false
  | _ => false
def isNone : Ex → Bool | .cst .none => true | _ => false
/-- return of a choice -/
def chkR (G : Sc) : Sx → Vw → Bool → Expr → Bool
  | .ret e, vw, fr, a => (chk G e).e vw (moR fr) a
  | .retv i, vw, _, a => (match a with
    | .Name n _ => slotB G vw i n
    | _ => false)
  | .ite c s r, vw, fr, a => (match a with
    | .IfExp e x y _ => (chk G c).t vw e && (chkR G s vw fr x && chkR G r vw fr y)
    | _ => false)
  | _, _, _, _ => false
def chkS (G : Sc) : Sx → SR
  | .nil => { ss := fun _ _ sts => sts.isEmpty }
  | .seq s r => { ss := fun vw fr sts => match sts with
      | st :: rest => (chkS G s).s vw fr st && (chkS G r).ss vw fr rest
      | [] => false }
  | .asg t e => { s := fun vw _ st => cAsg G t e vw st || cAct G t e vw st }
  | .raise c e => { s := fun vw _ st => cRaise G c e vw st }
  | .try_ b cs l x h => { s := cTry G cs l x (chkS G b).ss (chkS G h).ss }
  | .par is es => { s := fun vw _ st => cPar G is es vw st || cParT G is es vw st }
  | .setAt i n e => { s := fun vw _ st => cSetAt G i n e vw st }
  | .aug i e => { s := fun vw _ st => match st with
      | .AugAssign (.Name n _) .Add a _ => tgtB G vw i n && (chk G e).e vw .dn a
      | _ => false }
  | .app i e => { s := fun vw _ st => cApp G i e vw st }
  | .expr e => { s := fun vw _ st => match st with
      | .Expr a _ => notComp a && (chk G e).e vw .bn a
      | _ => false }
  | .ite c a b => { s := fun vw fr st => match st with
      | .If e p q _ => (chk G c).t vw e && ((chkS G a).ss vw fr p && (chkS G b).ss vw fr q)
      | .Return (some x) _ => chkR G (.ite c a b) vw fr x
      | _ => false }
  | .for_ t it b => { s := fun vw fr st => match st with
      | .For tg iter body [] _ => (!vw.hot && notSet iter) && ((chk G it).i vw true tg iter && ((chkG G t).g vw (rawOf it) tg && (chkS G b).ss vw fr body))
      | _ => false }
  | .forz t i b => { s := fun vw fr st => match st with
      | .For tg iter body [] _ => (!vw.hot && notSet iter) && ((chk G (.var i)).i vw true tg iter && ((chkG G t).g vw false tg && (chkS G b).ss vw fr body))
      | _ => false }
  | .while_ c b => { s := fun vw fr st => match st with
      | .While e body [] _ => (!vw.hot && (chk G c).t vw e) && (chkS G b).ss vw fr body
      | _ => false }
  | .brk => { s := fun _ _ st => match st with | .Break _ => true | _ => false }
  | .cont => { s := fun _ _ st => match st with | .Continue _ => true | _ => false }
  | .pass => { s := fun _ _ st => match st with | .Pass _ => true | _ => false }
  | .ret e => { s := fun vw fr st => match st with
      | .Return (some a) _ => (chk G e).e vw (moR fr) a
      | .Return none _ => isNone e
      | _ => false }
  | .retv i => { s := fun vw _ st => match st with
      | .Return (some (.Name n _)) _ => slotB G vw i n
      | _ => false }
  | .stop => { s := fun _ _ _ => true, ss := fun _ _ _ => true }
  | _ => {}
end Sb
set_option linter.all false
set_option maxRecDepth 20000
set_option maxHeartbeats 4000000
set_option autoImplicit false
/-! A26: the check of statements is right. -/
namespace Sb
open PySem PySem.Spec PyProof.Rows L2
section
variable {ct : CT} {G : Sc} {F : Fsem} {Γ : List Clo} {k : Nat} {fdm : Nat → FuncData}
structure XS (ct : CT) (G : Sc) (F : Fsem) (Γ : List Clo) (k : Nat) (fdm : Nat → FuncData) (X : Cx) (W : WX) (vw : Vw) (U0 : Um) (H0 : Hp) : Prop where
  stk : X.stack = X.env :: X.outer
  frm : X.env.frame = some X.env.locals
  act : G.clo = true → vw.hot = false → ∃ cl, Γ = [cl] ∧ ∀ (pn : List (Addr × Obj)) (xe : Value → Shared → Prop) (W : WX) (i : Nat) (n : Str) (p1 p2 : Pos), Takes (X.tr pn xe) W → X.N[i]? = some n → Vis X.env.scope n → (n == ("__debug__" : Str)) = false → (n == ("__classdict__" : Str)) = false →
    PE (X.tr pn xe) (.Call (.Name n p1) [] [] p2) (TAct X.K ct W U0 H0 i cl)
  x : XOk ct G F Γ k fdm X W vw
  hp : vw.hot = false → PassesOwn (model X.prog X.w) X.A X.env X.xe
structure GSound (ct : CT) (G : Sc) (F : Fsem) (Γ : List Clo) (k : Nat) (fdm : Nat → FuncData) (x : Ex) : Prop where
  g : ∀ X W vw raw a U0 H0, XOk ct G F Γ k fdm X W vw → (chkG G x).g vw raw a = true → PG X a (TG0 X.K ct U0 H0 raw (ev G.P F Γ x).g)
  gs : ∀ X W vw es U0 H0, XOk ct G F Γ k fdm X W vw → (chkG G x).gs vw es = true → PGs X es (TG0s X.K ct U0 H0 (ev G.P F Γ x).gs)
  gl : ∀ vw es, (chkG G x).gs vw es = true → exLen x = es.length ∧ ∀ env, (assignEach es env).length = es.length ∧ (assignEach es env).findIdx? (·.1) = none
theorem GSound.none {x : Ex} (h : chkG G x = {}) : GSound ct G F Γ k fdm x := by
  refine ⟨fun X W vw raw a U0 H0 xo q => ?_, fun X W vw es U0 H0 xo q => ?_, fun vw es q => ?_⟩ <;> (rw [h] at q; cases q)
/-- without what is wished of exceptions -/
theorem XOk.pure {X : Cx} {W : WX} {vw : Vw} (xo : XOk ct G F Γ k fdm X W vw) : XOk ct G F Γ k fdm X WF vw where
  hN := xo.hN
  hs := xo.hs
  nd := xo.nd
  un := xo.un
  gd := xo.gd
  tk := fun u s' ⟨_, _, _, _, _, _, _, _, _, _, _, _, _, _, _, _, z⟩ => z.elim
  tg := xo.tg
  gf := xo.gf
  cold := xo.cold
  hotp := xo.hotp
theorem gsound_nil : GSound ct G F Γ k fdm .nil := by
  refine ⟨fun X W vw raw a U0 H0 xo q => (by cases q), fun X W vw es U0 H0 xo q => ?_, fun vw es q => ?_⟩
  · cases es with
    | nil => exact gs0_nil
    | cons _ _ => cases q
  · cases es with
    | nil => exact ⟨rfl, fun env => ⟨rfl, rfl⟩⟩
    | cons _ _ => cases q
theorem gsound_var (i : Nat) : GSound ct G F Γ k fdm (.var i) := by
  refine ⟨fun X W vw raw a U0 H0 xo q => ?_, fun X W vw es U0 H0 xo q => (by cases q), fun vw es q => (by cases q)⟩
  cases a with
  | Name n p =>
    have q : (!raw && tgtB G vw i n) = true := q
    rw [Bool.and_eq_true, Bool.not_eq_true'] at q
    obtain ⟨rfl, q⟩ := q
    obtain ⟨t1, t2, t3⟩ := xo.tgt q
    exact g0_var xo.nd t1 t2 t3
  | _ => cases q
theorem gsound_ix (i : Nat) (xi : Ex) : GSound ct G F Γ k fdm (.ix (.var i) xi) := by
  refine ⟨fun X W vw raw a U0 H0 xo q => ?_, fun X W vw es U0 H0 xo q => (by cases q), fun vw es q => (by cases q)⟩
  cases a with
  | Subscript o ei p =>
    cases o with
    | Name n p1 =>
      have q : (!raw && (slotB G vw i n && (noSl ei && (chk G xi).e vw .dn ei))) = true := q
      simp only [Bool.and_eq_true, Bool.not_eq_true'] at q
      obtain ⟨rfl, q1, q2, q3⟩ := q
      obtain ⟨h1, h2, h3, h4⟩ := xo.slot q1
      exact g0_ix (raw := false) h1 h2 h3 h4 (fun v => by cases ei <;> first | rfl | (simp [noSl] at q2; done)) ((chk_sound xi).e _ _ _ _ _ xo.pure q3)
    | _ => cases q
  | _ => cases q
theorem gsound_tup {es : Ex} (s : GSound ct G F Γ k fdm es) : GSound ct G F Γ k fdm (.tup es) := by
  refine ⟨fun X W vw raw a U0 H0 xo q => ?_, fun X W vw es U0 H0 xo q => (by cases q), fun vw es q => (by cases q)⟩
  cases a with
  | Tuple es' kk p =>
    have q : (!vw.hot && (chkG G es).gs vw es') = true := q
    rw [Bool.and_eq_true, Bool.not_eq_true'] at q
    obtain ⟨hc, q⟩ := q
    obtain ⟨h1, h2⟩ := s.gl vw es' q
    exact g0_tup (xo.cold hc).calm (h2 _).1 (h2 _).2 h1 (s.gs _ _ _ _ _ _ xo q)
  | _ => cases q
theorem gsound_cons {a r : Ex} (sa : GSound ct G F Γ k fdm a) (sr : GSound ct G F Γ k fdm r) : GSound ct G F Γ k fdm (.cons a r) := by
  refine ⟨fun X W vw raw a U0 H0 xo q => (by cases q), fun X W vw es U0 H0 xo q => ?_, fun vw es q => ?_⟩
  · cases es with
    | nil => cases q
    | cons e es =>
      have q : (simpT e && ((chkG G a).g vw false e && (chkG G r).gs vw es)) = true := q
      simp only [Bool.and_eq_true] at q
      exact gs0_cons (assign_one q.1).1 (sa.g _ _ _ _ _ _ _ xo q.2.1) (sr.gs _ _ _ _ _ _ xo q.2.2)
  · cases es with
    | nil => cases q
    | cons e es =>
      have q : (simpT e && ((chkG G a).g vw false e && (chkG G r).gs vw es)) = true := q
      simp only [Bool.and_eq_true] at q
      obtain ⟨h1, h2⟩ := sr.gl vw es q.2.2
      exact ⟨by show exLen r + 1 = es.length + 1; rw [h1], fun env => ⟨by rw [(assign_one q.1).2.1, (h2 env).1]; rfl, (assign_one q.1).2.2 (h2 env).2⟩⟩
theorem chkG_sound : ∀ x : Ex, GSound ct G F Γ k fdm x
  | .nil => gsound_nil
  | .cons a r => gsound_cons (chkG_sound a) (chkG_sound r)
  | .var i => gsound_var i
  | .tup es => gsound_tup (chkG_sound es)
  | .ix a xi => by
    cases a with
    | var i => exact gsound_ix i xi
    | _ => exact .none rfl
  | .cst _ => .none rfl
  | .bvar _ => .none rfl
  | .lend _ => .none rfl
  | .mkown _ => .none rfl
  | .box _ => .none rfl
  | .glob _ => .none rfl
  | .bin _ _ _ => .none rfl
  | .neg _ => .none rfl
  | .cmp _ _ _ => .none rfl
  | .cmp2 _ _ _ _ _ => .none rfl
  | .and _ _ => .none rfl
  | .or _ _ => .none rfl
  | .not _ => .none rfl
  | .ife _ _ _ => .none rfl
  | .lst _ => .none rfl
  | .lstar _ _ => .none rfl
  | .sl _ _ _ => .none rfl
  | .rev _ => .none rfl
  | .attr _ _ => .none rfl
  | .call _ _ _ _ => .none rfl
  | .mk _ _ _ _ => .none rfl
  | .mt _ _ _ => .none rfl
  | .isi _ _ => .none rfl
  | .comp _ _ _ _ _ => .none rfl
  | .comp2 _ _ _ _ _ _ _ _ _ => .none rfl
  | .rng1 _ => .none rfl
  | .rng2 _ _ => .none rfl
  | .enum _ => .none rfl
  | .zip _ => .none rfl
  | .bi _ _ => .none rfl
  | .dict _ _ => .none rfl
  | .callv _ _ => .none rfl
  | .callc _ _ _ _ _ _ _ => .none rfl
  | .umt _ _ _ _ _ => .none rfl
  | .cmt _ _ _ _ _ => .none rfl
  | .dcomp _ _ _ _ _ => .none rfl
  | .yes => .none rfl
  | .items _ => .none rfl
  | .listof _ => .none rfl
  | .tupof _ => .none rfl
  | .sortk _ _ _ _ => .none rfl
  | .srl _ => .none rfl
  | .isx _ _ _ _ => .none rfl
  | .attx _ _ => .none rfl
  | .lamc _ _ => .none rfl
  | .sdl _ => .none rfl
  | .up _ => .none rfl
  | .inso _ _ _ => .none rfl
  | .boolo _ => .none rfl
  | .stro _ => .none rfl
  | .eqo _ _ _ => .none rfl
  | .mkv _ _ _ => .none rfl
variable {X : Cx} {W : WX} {vw : Vw} {fr : Bool} {U0 : Um} {H0 : Hp}
theorem isComp_cases {x : Ex} (h : isComp x = true) : (∃ t it c e own, x = .comp t it c e own) ∨ ∃ t it c t2 it2 c2 e own own2, x = .comp2 t it c t2 it2 c2 e own own2 := by
  cases x <;> first | exact .inl ⟨_, _, _, _, _, rfl⟩ | exact .inr ⟨_, _, _, _, _, _, _, _, _, rfl⟩ | (simp [isComp] at h)
theorem cComp_form {own : List Nat} {raw yes : Bool} {cg : Vw → Bool → List Nat → Expr → Bool} {ci : Vw → Bool → Expr → Expr → Bool} {cc : Vw → Expr → Bool} {ce : Vw → Mo → Expr → Bool} {m : Mo} {a : Expr} (h : cComp G own raw yes cg ci cc ce vw m a = true) :
    ∃ elt tg iter ifs scope pos, a = .ListComp elt [⟨tg, iter, ifs, 0⟩] scope pos ∧ blkB G.N vw.sc scope own = true ∧ notSet iter = true ∧ ci vw false tg iter = true ∧ cg (inV vw scope) raw own tg = true ∧ cIfs yes cc (inV vw scope) ifs = true ∧ ce (inV vw scope) .dn elt = true := by
  unfold cComp at h
  split at h
  · simp only [Bool.and_eq_true] at h
    exact ⟨_, _, _, _, _, _, rfl, h⟩
  · cases h
theorem cComp2_form {own own2 : List Nat} {raw yes raw2 yes2 : Bool} {cg cg2 : Vw → Bool → List Nat → Expr → Bool} {ci ci2 : Vw → Bool → Expr → Expr → Bool} {cc cc2 : Vw → Expr → Bool} {ce : Vw → Mo → Expr → Bool} {m : Mo} {a : Expr} (h : cComp2 G own own2 raw yes raw2 yes2 cg cg2 ci ci2 cc cc2 ce vw m a = true) :
    ∃ elt tg iter ifs tg2 iter2 ifs2 scope pos, a = .ListComp elt [⟨tg, iter, ifs, 0⟩, ⟨tg2, iter2, ifs2, 0⟩] scope pos ∧ blkB G.N vw.sc scope own = true ∧ (∀ i ∈ own2, i ∈ own) ∧ notSet iter = true ∧ notSet iter2 = true ∧ ci vw false tg iter = true ∧ cg (inV vw scope) raw own tg = true ∧ cIfs yes cc (inV vw scope) ifs = true ∧
      ci2 (inV vw scope) false tg2 iter2 = true ∧ cg2 (inV vw scope) raw2 own2 tg2 = true ∧ cIfs yes2 cc2 (inV vw scope) ifs2 = true ∧ ce (inV vw scope) .dn elt = true := by
  unfold cComp2 at h
  split at h
  · simp only [Bool.and_eq_true, List.all_eq_true, decide_eq_true_eq] at h
    exact ⟨_, _, _, _, _, _, _, _, _, rfl, h⟩
  · cases h
/-- name = [..], as it stores -/
theorem setLc_ok {i : Nat} {y : Str} {py spos : Pos} {x : Ex} {a : Expr} {m : Mo} (xo : XOk ct G F Γ k fdm X W vw) (hy : X.N[i]? = some y) (hyl : X.env.scope.names.lookup y = some .local) (hsw : swapsWith a (some (.Name y py)) spos.line X.env = pure true)
    (hc : isComp x = true) (h : (chk G x).e vw m a = true) : ∃ te, PS X (.Assign [.Name y py] a spos) (tAsg te (gName i)) ∧ ∀ σ H Q, TE_ X.K ct W m (ev G.P F Γ x).e σ H Q → te σ H Q := by
  rcases isComp_cases hc with ⟨t, it, c, e, own, rfl⟩ | ⟨t, it, c, t2, it2, c2, e, own, own2, rfl⟩
  · have h : cold (cComp G own (rawOf it) (isYes c) (chk G t).g (chk G it).i (chk G c).t (chk G e).e) vw m a = true := h
    obtain ⟨hh, h⟩ := cold_ok h
    obtain ⟨elt, tg, iter, ifs, scope, pos, rfl, h1, h2, h3, h4, h5, h6⟩ := cComp_form h
    · refine ⟨_, ps_setLc (g := TGc X.K ct (rawOf it) ((ownP G.N own).map (·.2)) (ev G.P F Γ t).g) (tt := TT_ X.K ct WF (ev G.P F Γ c).t) (te := TE_ X.K ct WF .dn (ev G.P F Γ e).e) (xo.cold hh).calm xo.nd hy hyl hsw ((chk_sound it).i _ _ _ false _ _ xo h3) (own := ownP G.N own) (by rw [xo.hN, xo.hs]; exact blk_ok h1)
        (fun s H C cl fp => (chk_sound t).g _ _ _ (rawOf it) ((ownP G.N own).map (·.2)) _ (xo.blk hh scope s H C cl fp) (by rw [ownP_map]; exact h4)) (fun s H C cl fp => cIfs_ok (chk_sound c) (xo.blk hh scope s H C cl fp) h5) (fun s H C cl fp => (chk_sound e).e _ _ _ .dn _ (xo.blk hh scope s H C cl fp) h6) (notSet_ok h2), fun σ H Q q => ?_⟩
      have q : TE_ X.K ct W m (ev G.P F Γ (.comp t it c e ((ownP G.N own).map (·.2)))).e σ H Q := by rw [ownP_map]; exact q
      exact te_comp q
  · have h : cold (cComp2 G own own2 (rawOf it) (isYes c) (rawOf it2) (isYes c2) (chk G t).g (chk G t2).g (chk G it).i (chk G it2).i (chk G c).t (chk G c2).t (chk G e).e) vw m a = true := h
    obtain ⟨hh, h⟩ := cold_ok h
    obtain ⟨elt, tg, iter, ifs, tg2, iter2, ifs2, scope, pos, rfl, h1, h0, h2, h2', h3, h4, h5, h6, h7, h8, h9⟩ := cComp2_form h
    · refine ⟨_, ps_setLc2 (g := TGc X.K ct (rawOf it) ((ownP G.N own).map (·.2)) (ev G.P F Γ t).g) (tt := TT_ X.K ct WF (ev G.P F Γ c).t) (wi1 := TI_ X.K ct WF false (rawOf it2) (ev G.P F Γ it2).i) (g1 := TGc X.K ct (rawOf it2) own2 (ev G.P F Γ t2).g) (tt1 := TT_ X.K ct WF (ev G.P F Γ c2).t) (te := TE_ X.K ct WF .dn (ev G.P F Γ e).e) (vs1 := own2) (xo.cold hh).calm xo.nd hy hyl hsw ((chk_sound it).i _ _ _ false _ _ xo h3) (own := ownP G.N own) (by rw [xo.hN, xo.hs]; exact blk_ok h1) (by rw [ownP_map]; exact h0)
        (fun s H C cl fp => (chk_sound t).g _ _ _ (rawOf it) ((ownP G.N own).map (·.2)) _ (xo.blk hh scope s H C cl fp) (by rw [ownP_map]; exact h4)) (fun s H C cl fp => cIfs_ok (chk_sound c) (xo.blk hh scope s H C cl fp) h5)
        (fun s H C cl fp => (chk_sound it2).i _ _ _ false _ _ (xo.blk hh scope s H C cl fp) h6) (fun s H C cl fp => (chk_sound t2).g _ _ _ (rawOf it2) own2 _ (xo.blk hh scope s H C cl fp) h7) (fun s H C cl fp => cIfs_ok (chk_sound c2) (xo.blk hh scope s H C cl fp) h8)
        (fun s H C cl fp => (chk_sound e).e _ _ _ .dn _ (xo.blk hh scope s H C cl fp) h9) (notSet_ok h2) (fun _ => notSet_ok h2'), fun σ H Q q => ?_⟩
      have q : TE_ X.K ct W m (ev G.P F Γ (.comp2 t it c t2 it2 c2 e ((ownP G.N own).map (·.2)) own2)).e σ H Q := by rw [ownP_map]; exact q
      exact te_comp2 q
theorem te_own {xa : Ex} {σ : L2.St} {H : Hp} {Qv : VK} (h : TE_ X.K ct W .ow (ev G.P F Γ (.mkown xa)).e σ H Qv) : TE_ X.K ct W .fr (ev G.P F Γ xa).e σ H Qv := by
  obtain ⟨U, S, ρ, Q, E, ok, sl, r, po, px⟩ := h
  exact ⟨U, S, ρ, _, E, ok, sl, r, fun v d U1 S1 H1 s1 o1 m1 q1 => by
      cases d with
      | lst ds =>
        obtain ⟨p, xs, rfl, h1, h2, h3, h4, h5⟩ := FrS.lst m1 ds rfl
        exact po _ _ (U1.set p .ow) S1 H1 (s1.setNew h1) h5 (show OwV X.K ct H (U1.set p .ow) H1 (.ref p) (.own ds) from OwV.own h1 Um.set_same h2 h4) q1
      | _ => exact q1.elim, px⟩
theorem sole_ok {t a : Expr} {l : Nat} {env : PySem.Env} (h : notComp a = true) : swapsWithSole [t] a l env = pure false := by
  have := notComp_ok (t := some t) (l := l) (env := env) h
  simpa [swapsWithSole] using this
theorem swap0 {ts vs : List Expr} {k k2 : Nat} {p p2 : Pos} {env : PySem.Env} (h : vs.all (foldedForSure 8) = true) : swappedStores [.Tuple ts k p] (.Tuple vs k2 p2) env = pure none := by
  unfold swappedStores
  simp only [h]
  repeat' split
  all_goals first | rfl | exact absurd trivial (by assumption)
theorem swapL {ts vs : List Expr} {k k2 : Nat} {p p2 : Pos} {env : PySem.Env} (h : (ts.filterMap fun
    | .Name id pos => if env.kindOf id == some .local && pos.line == (ts.head?.map (·.pos.line)).getD 0 then some id else none
    | _ => none).length ≠ ts.length) : swappedStores [.Tuple ts k p] (.Tuple vs k2 p2) env = pure none := by
  have h' : ((ts.filterMap fun
    | .Name id pos => if env.kindOf id == some .local && pos.line == (ts.head?.map (·.pos.line)).getD 0 then some id else none
    | _ => none).length != ts.length) = true := by simpa using h
  unfold swappedStores
  simp only []
  split
  · rfl
  split
  · rfl
  split
  · rfl
  · rename_i hC
    exact absurd ((Bool.or_eq_true _ _).mpr (.inl h')) hC
theorem swap1 {x y : Str} {px py : Pos} {vs : List Expr} {k k2 : Nat} {p p2 : Pos} {env : PySem.Env} (h : ¬ (env.kindOf x = some .local ∧ env.kindOf y = some .local)) : swappedStores [.Tuple [.Name x px, .Name y py] k p] (.Tuple vs k2 p2) env = pure none := by
  refine swapL fun q => ?_
  by_cases hx : env.kindOf x = some .local
  · have hy : ¬ env.kindOf y = some .local := fun q => h ⟨hx, q⟩
    simp [hx, hy, Expr.pos] at q
  · have := List.length_filterMap_le (fun
      | .Name id pos => if env.kindOf id == some .local && pos.line == (([Expr.Name x px, Expr.Name y py].head?).map (·.pos.line)).getD 0 then some id else none
      | _ => none) [Expr.Name y py]
    rw [List.filterMap_cons] at q
    simp only [hx, beq_eq_false_iff_ne.mpr hx, Bool.false_and, Bool.false_eq_true, if_false] at q
    simp only [List.length_cons, List.length_nil] at q this
    omega
theorem swap2 {x y z : Str} {px py pz : Pos} {vs : List Expr} {k k2 : Nat} {p p2 : Pos} {env : PySem.Env} (h : ¬ (env.kindOf x = some .local ∧ env.kindOf y = some .local ∧ env.kindOf z = some .local)) : swappedStores [.Tuple [.Name x px, .Name y py, .Name z pz] k p] (.Tuple vs k2 p2) env = pure none := by
  refine swapL fun q => ?_
  by_cases hx : env.kindOf x = some .local <;> by_cases hy : env.kindOf y = some .local <;> by_cases hz : env.kindOf z = some .local <;> by_cases l1 : py.line = px.line <;> by_cases l2 : pz.line = px.line <;> simp_all [List.filterMap_cons, Expr.pos]
theorem swapN {ts vs : List Expr} {k k2 : Nat} {p p2 : Pos} {env : PySem.Env} (h : ts.any notName = true) : swappedStores [.Tuple ts k p] (.Tuple vs k2 p2) env = pure none := by
  refine swapL fun q => ?_
  have key : ∀ (f : Expr → Option Str), (∀ e, notName e = true → f e = none) → ∀ l : List Expr, (l.filterMap f).length = l.length → l.any notName = false := by
    intro f hf l
    induction l with
    | nil => intro _; rfl
    | cons x r ih =>
      intro hl
      rw [List.filterMap_cons] at hl
      have hle := List.length_filterMap_le f r
      cases hx : f x with
      | none => rw [hx] at hl; simp only [List.length_cons] at hl; omega
      | some y =>
        rw [hx] at hl
        simp only [List.length_cons] at hl
        have hn : notName x = false := by
          cases e : notName x with
          | false => rfl
          | true => rw [hf x e] at hx; cases hx
        rw [List.any_cons, hn, ih (by omega)]; rfl
  rw [key _ (fun e he => by cases e <;> first | rfl | (simp [notName] at he)) ts q] at h
  cases h
theorem swapM {ts vs : List Expr} {k k2 : Nat} {p p2 : Pos} {env : PySem.Env} (h : ts.length ≠ 2 ∧ ts.length ≠ 3) : swappedStores [.Tuple ts k p] (.Tuple vs k2 p2) env = pure none := by
  have h1 : (ts.length == 2) = false := by simpa using h.1
  have h2 : (ts.length == 3) = false := by simpa using h.2
  unfold swappedStores
  simp only [h1, h2]
  split
  · rfl
  · rename_i hc
    exact absurd (by simp) hc
theorem sw0_ok {es : List Expr} {a : Expr} {k : Nat} {p : Pos} {env : PySem.Env} (hs : env.scope = vw.sc) (h : sw0 vw es a = true) : swappedStores [.Tuple es k p] a env = pure none := by
  cases a with
  | Tuple vs k2 p2 =>
    simp only [sw0, Bool.or_eq_true] at h
    rcases h with h | h
    · exact swap0 h
    · split at h
      · simp only [Bool.not_eq_true', decide_eq_false_iff_not] at h
        refine swap1 ?_
        unfold Env.kindOf
        rw [hs]; exact h
      · simp only [Bool.not_eq_true', decide_eq_false_iff_not] at h
        refine swap2 ?_
        unfold Env.kindOf
        rw [hs]; exact h
      · simp only [Bool.or_eq_true, decide_eq_true_eq] at h
        exact h.elim swapN swapM
  | _ => rfl
theorem cAsg_ok {t e : Ex} {st : Stmt} (xs : XS ct G F Γ k fdm X W vw U0 H0) (h : cAsg G t e vw st = true) : PS X st (TS_ X.K ct fr W U0 H0 (evS G.P F Γ (.asg t e))) := by
  have xo := xs.x
  unfold cAsg at h
  split at h
  · rename_i tg a pos
    split at h
    · rename_i i n p hv
      have ht : t = .var i := by cases t <;> first | (simp [isVar] at hv; subst hv; rfl) | (simp [isVar] at hv)
      subst ht
      rw [Bool.and_eq_true] at h
      obtain ⟨h1, h2⟩ := h
      obtain ⟨t1, t2, t3⟩ := xo.tgt h1
      split at h2
      · rename_i elt gens scope cpos
        rw [Bool.and_eq_true, decide_eq_true_eq] at h2
        obtain ⟨hk, h2⟩ := h2
        have hsw := swB_ok (elt := elt) (gens := gens) (l := pos.line) (t := n) (pos := p) (cpos := cpos) (scope := scope) xo.hs hk
        split at h2
        · rename_i hb
          rw [hb] at hsw
          have hl : X.env.scope.names.lookup n = some .local := by
            unfold swB at hb
            simp only [Bool.and_eq_true, beq_iff_eq] at hb
            rw [xo.hs]; exact hb.1.1
          unfold setC at h2
          split at h2
          · rename_i x
            rw [Bool.and_eq_true] at h2
            obtain ⟨te, h3, h4⟩ := setLc_ok xo t1 hl hsw h2.1 h2.2
            exact s_set h3 fun σ H Q q => h4 σ H Q (te_own q)
          · rw [Bool.and_eq_true] at h2
            obtain ⟨te, h3, h4⟩ := setLc_ok xo t1 hl hsw h2.1 h2.2
            exact s_set h3 h4
        · rename_i hb
          rw [Bool.not_eq_true] at hb
          rw [hb] at hsw
          exact s_set (ps_set xo.nd t1 t2 ((chk_sound e).e _ _ _ _ _ xo h2) hsw t3) fun _ _ _ q => q
      · rw [Bool.and_eq_true] at h2
        exact s_set (ps_set xo.nd t1 t2 ((chk_sound e).e _ _ _ _ _ xo h2.2) (notComp_ok h2.1) t3) fun _ _ _ q => q
    · rename_i es kk p hv
      simp only [Bool.and_eq_true] at h
      obtain ⟨h1, h2, h3, h4⟩ := h
      exact s_asgT rfl (sole_ok h1) (sw0_ok xo.hs h2) rfl ((chk_sound e).e _ _ _ _ _ xo h4) ((chkG_sound t).g _ _ _ _ _ _ _ xo h3)
    · rename_i o ii p hv
      simp only [Bool.and_eq_true] at h
      obtain ⟨h1, h3, h4⟩ := h
      exact s_asgT rfl (sole_ok h1) rfl rfl ((chk_sound e).e _ _ _ _ _ xo h4) ((chkG_sound t).g _ _ _ _ _ _ _ xo h3)
    · cases h
  · cases h
theorem cAct_ok {t e : Ex} {st : Stmt} (xs : XS ct G F Γ k fdm X W vw U0 H0) (h : cAct G t e vw st = true) : PS X st (TS_ X.K ct fr W U0 H0 (evS G.P F Γ (.asg t e))) := by
  have xo := xs.x
  unfold cAct at h
  split at h
  · split at h
    · simp only [Bool.and_eq_true, Bool.not_eq_true'] at h
      obtain ⟨⟨h1, h2⟩, h3, h4⟩ := h
      obtain ⟨cl, rfl, act⟩ := xs.act h1 h2
      obtain ⟨t1, t2, t3⟩ := xo.tgt h3
      obtain ⟨u1, u2, u3, u4⟩ := xo.slot h4
      exact s_act (cl := cl) (ps_set xo.nd t1 t2 (act X.pn X.xe W _ _ _ _ xo.tk u1 u2 u3 u4) (notComp_ok rfl) t3) (fun _ _ _ q => q) (fun ρ j' => by
        cases j' with
        | zero => exact .inl rfl
        | succ j' => exact .inr (by simp)) (fun U H v j' hv => by
        cases hv with
        | of h => nomatch h
        | clo _ _ _ => rfl)
    · cases h
  · cases h
theorem cRaise_ok {c : Nat} {e : Ex} {st : Stmt} (xs : XS ct G F Γ k fdm X W vw U0 H0) (h : cRaise G c e vw st = true) : PS X st (TS_ X.K ct fr W U0 H0 (evS G.P F Γ (.raise c e))) := by
  have xo := xs.x
  unfold cRaise at h
  split at h
  · simp only [Bool.and_eq_true, Bool.not_eq_true', decide_eq_true_eq] at h
    obtain ⟨h1, h2, h3, h4, h5, h6⟩ := h
    obtain ⟨g1, g2⟩ := xo.glob h2
    obtain ⟨fI, b, T, fl⟩ := xo.gf.xr c h4
    have cd := xo.cold h1
    exact s_raise cd.calm T fl cd.room.r xo.tk (xo.gf.kl _ _ h3) g1 g2 ((chk_sound e).l _ _ _ _ _ xo h6) (starEach_cons h5)
  · cases h
end
end Sb
set_option linter.all false
set_option maxRecDepth 20000
set_option maxHeartbeats 4000000
set_option autoImplicit false
/-! A27: the check of statements is right, all. -/
namespace Sb
open PySem PySem.Spec PyProof.Rows L2
section
variable {ct : CT} {G : Sc} {F : Fsem} {Γ : List Clo} {k : Nat} {fdm : Nat → FuncData} {X : Cx} {W : WX} {vw : Vw} {fr : Bool} {U0 : Um} {H0 : Hp}
theorem block_fn {env : PySem.Env} (hs : env.scope = vw.sc) (hk : vw.sc.kind = .function) : env.blockKind = .function := by
  unfold Env.blockKind
  rw [hs, hk]; rfl
theorem swapped2 {x y : Str} {a b : Expr} {px py pt p2 : Pos} {kt k2 : Nat} {env : PySem.Env} (hb : env.blockKind = .function) (hx : env.kindOf x = some .local) (hy : env.kindOf y = some .local) (hxy : x ≠ y) (hl : py.line = px.line) (ha : notStar a = true) (hbs : notStar b = true)
    (h1 : [a, b].all (foldedForSure 8) = false) (h2 : [a, b].all (constantsAlone 8) = false) : swappedStores [.Tuple [.Name x px, .Name y py] kt pt] (.Tuple [a, b] k2 p2) env = pure (some [x, y]) := by
  have hd : ([x, y] : List Str).eraseDups.length = 2 := by
    simp [List.eraseDups_cons, hxy, Ne.symm hxy]
  unfold swappedStores
  simp only [List.length_cons, List.length_nil, hb, List.any_cons, List.any_nil]
  simp [hx, hy, hl, h1, h2, hd, Expr.pos]
  rintro (hh | hh)
  · cases a <;> first | (cases hh; done) | (simp [notStar] at ha; done)
  · cases b <;> first | (cases hh; done) | (simp [notStar] at hbs; done)
theorem swapped3 {x y z : Str} {a b c : Expr} {px py pz pt p2 : Pos} {kt k2 : Nat} {env : PySem.Env} (hb : env.blockKind = .function) (hx : env.kindOf x = some .local) (hy : env.kindOf y = some .local) (hz : env.kindOf z = some .local) (hxy : x ≠ y) (hxz : x ≠ z) (hyz : y ≠ z) (hl : py.line = px.line) (hl2 : pz.line = px.line) (ha : notStar a = true) (hbs : notStar b = true) (hcs : notStar c = true)
    (h1 : [a, b, c].all (foldedForSure 8) = false) (h2 : [a, b, c].all (constantsAlone 8) = false) : swappedStores [.Tuple [.Name x px, .Name y py, .Name z pz] kt pt] (.Tuple [a, b, c] k2 p2) env = pure (some [x, y, z]) := by
  have hd : ([x, y, z] : List Str).eraseDups.length = 3 := by
    simp [List.eraseDups_cons, hxy, Ne.symm hxy, hxz, Ne.symm hxz, hyz, Ne.symm hyz]
  unfold swappedStores
  simp only [List.length_cons, List.length_nil, hb, List.any_cons, List.any_nil]
  simp [hx, hy, hz, hl, hl2, h1, h2, hd, Expr.pos]
  rintro (hh | hh | hh)
  · cases a <;> first | (cases hh; done) | (simp [notStar] at ha; done)
  · cases b <;> first | (cases hh; done) | (simp [notStar] at hbs; done)
  · cases c <;> first | (cases hh; done) | (simp [notStar] at hcs; done)
theorem cPar_ok {is : List Nat} {es : Ex} {st : Stmt} (xs : XS ct G F Γ k fdm X W vw U0 H0) (h : cPar G is es vw st = true) : PS X st (TS_ X.K ct fr W U0 H0 (evS G.P F Γ (.par is es))) := by
  have xo := xs.x
  unfold cPar at h
  split at h
  · rename_i x px y py kt pt a b k2 p2 pos
    split at h
    · rename_i i j
      simp only [Bool.and_eq_true, decide_eq_true_eq, Bool.not_eq_true'] at h
      obtain ⟨⟨hh, hk⟩, ⟨n1, n2⟩, ⟨d1, d2⟩, ⟨l1, l2⟩, hl, s1, s2, f1, f2, hc⟩ := h
      have l1' : X.env.scope.names.lookup x = some .local := by rw [xo.hs]; exact l1
      have l2' : X.env.scope.names.lookup y = some .local := by rw [xo.hs]; exact l2
      exact s_par2 (xo.cold hh).calm xo.nd (by rw [xo.hN]; exact n1) (by rw [xo.hN]; exact n2) d1 l1' l2' (swapped2 (block_fn xo.hs hk) l1' l2' d2 hl s1 s2 f1 f2) (sole_ok rfl) ((chk_sound es).l _ _ _ _ _ xo hc)
    · cases h
  · rename_i x px y py z pz kt pt a b c k2 p2 pos
    split at h
    · rename_i i j l
      simp only [Bool.and_eq_true, decide_eq_true_eq, Bool.not_eq_true'] at h
      obtain ⟨⟨hh, hk⟩, ⟨n1, n2, n3⟩, ⟨d1, d2, d3, d4, d5, d6⟩, ⟨l1, l2, l3⟩, ⟨hl, hl2⟩, s1, s2, s3, f1, f2, hc⟩ := h
      have l1' : X.env.scope.names.lookup x = some .local := by rw [xo.hs]; exact l1
      have l2' : X.env.scope.names.lookup y = some .local := by rw [xo.hs]; exact l2
      have l3' : X.env.scope.names.lookup z = some .local := by rw [xo.hs]; exact l3
      exact s_par3 (xo.cold hh).calm xo.nd (by rw [xo.hN]; exact n1) (by rw [xo.hN]; exact n2) (by rw [xo.hN]; exact n3) d1 d2 d3 l1' l2' l3' (swapped3 (block_fn xo.hs hk) l1' l2' l3' d4 d5 d6 hl hl2 s1 s2 s3 f1 f2) (sole_ok rfl) ((chk_sound es).l _ _ _ _ _ xo hc)
    · cases h
  · cases h
def gNames : List Nat → TGs
  | [] => gNil
  | i :: is => gCons (gName i) (gNames is)
theorem gNames_set : ∀ (is : List Nat) (vs : List V) (σ : L2.St) (H : Hp) (Q : L2.St → Hp → Prop), vs.length = is.length → Q (setAllV is vs σ) H → gNames is vs σ H Q
  | [], [], σ, H, Q, _, h => ⟨rfl, h⟩
  | [], _ :: _, σ, H, Q, e, _ => by cases e
  | _ :: _, [], σ, H, Q, e, _ => by cases e
  | i :: is, v :: vs, σ, H, Q, e, h => ⟨v, vs, rfl, gNames_set is vs _ H Q (by simpa using e) h⟩
theorem cNames_ok (xo : XOk ct G F Γ k fdm X W vw) : ∀ {is : List Nat} {ts : List Expr}, cNames G vw is ts = true → PGs X ts (gNames is) ∧ (assignEach ts X.env).length = is.length ∧ (assignEach ts X.env).findIdx? (·.1) = none
  | [], [], _ => ⟨pgs_nil, rfl, rfl⟩
  | i :: is, .Name n p :: ts, h => by
    have h : (tgtB G vw i n && cNames G vw is ts) = true := h
    rw [Bool.and_eq_true] at h
    obtain ⟨h1, h2⟩ := h
    obtain ⟨t1, t2, t3⟩ := xo.tgt h1
    obtain ⟨a, b, c⟩ := cNames_ok xo h2
    refine ⟨pgs_cons (pg_name xo.nd t1 t2 t3) a rfl, ?_, ?_⟩
    · show ((false, _) :: assignEach ts X.env).length = _
      simp [b]
    · show ((false, _) :: assignEach ts X.env).findIdx? (·.1) = none
      simp [List.findIdx?_cons, c]
  | [], _ :: _, h => by cases h
  | _ :: _, [], h => by cases h
theorem cParT_ok {is : List Nat} {es : Ex} {st : Stmt} (xs : XS ct G F Γ k fdm X W vw U0 H0) (h : cParT G is es vw st = true) : PS X st (TS_ X.K ct fr W U0 H0 (evS G.P F Γ (.par is es))) := by
  have xo := xs.x
  unfold cParT at h
  split at h
  · rename_i ts kt pt as k2 p2 pos
    simp only [Bool.and_eq_true, Bool.not_eq_true', decide_eq_true_eq] at h
    obtain ⟨⟨hh, hl⟩, he, hw, hn, hc⟩ := h
    obtain ⟨g1, g2, g3⟩ := cNames_ok xo hn
    have ha := (chk_sound es).l _ _ _ _ _ xo hc
    rw [he] at ha
    exact s_parT ha rfl (by rw [sizeLine_eq]; omega) (pg_tup (xo.cold hh).calm g1 g2 g3) (fun vs σ H Q e q => gNames_set is vs σ H Q e q) (sole_ok rfl) (sw0_ok xo.hs hw) rfl
  · cases h
theorem cApp_ok {i : Nat} {e : Ex} {st : Stmt} (xs : XS ct G F Γ k fdm X W vw U0 H0) (h : cApp G i e vw st = true) : PS X st (TS_ X.K ct fr W U0 H0 (evS G.P F Γ (.app i e))) := by
  have xo := xs.x
  unfold cApp at h
  split at h
  · simp only [Bool.and_eq_true, decide_eq_true_eq] at h
    obtain ⟨rfl, h1, h2, h3, h4⟩ := h
    obtain ⟨t1, t2, t3, t4⟩ := xo.slot h1
    exact s_app t1 t2 t3 t4 (base_ok rfl) (few_ok (by rw [List.all_cons, h3]; rfl) (by simp)) h2 (starEach_cons h3) (starEach_any (by rfl)) (notComp_ok rfl) ((chk_sound e).e _ _ _ _ _ xo h4)
  · cases h
theorem cSetAt_ok {i n : Nat} {e : Ex} {st : Stmt} (xs : XS ct G F Γ k fdm X W vw U0 H0) (h : cSetAt G i n e vw st = true) : PS X st (TS_ X.K ct fr W U0 H0 (evS G.P F Γ (.setAt i n e))) := by
  have xo := xs.x
  unfold cSetAt at h
  split at h
  · simp only [Bool.and_eq_true, decide_eq_true_eq] at h
    obtain ⟨h0, h1, h2, h3⟩ := h
    obtain ⟨t1, t2, t3, t4⟩ := xo.slot h1
    exact s_setAt h0 xo.gf.cf t1 t2 t3 t4 (notComp_ok h2) ((chk_sound e).e _ _ _ _ _ xo h3)
  · cases h
structure SSound (ct : CT) (G : Sc) (F : Fsem) (Γ : List Clo) (k : Nat) (fdm : Nat → FuncData) (sx : Sx) : Prop where
  s : ∀ X W vw fr st U0 H0, XS ct G F Γ k fdm X W vw U0 H0 → (chkS G sx).s vw fr st = true → PS X st (TS_ X.K ct fr W U0 H0 (evS G.P F Γ sx))
  ss : ∀ X W vw fr sts U0 H0, XS ct G F Γ k fdm X W vw U0 H0 → (chkS G sx).ss vw fr sts = true → PSs X sts (TS_ X.K ct fr W U0 H0 (evS G.P F Γ sx))
theorem isNone_ok {e : Ex} (h : isNone e = true) : e = .cst .none := by
  cases e with
  | cst c => cases c <;> first | rfl | (simp [isNone] at h)
  | _ => simp [isNone] at h
theorem SSound.one {s : Sx} (hs : (chkS G s).ss = fun _ _ _ => false) (h : ∀ X W vw fr st U0 H0, XS ct G F Γ k fdm X W vw U0 H0 → (chkS G s).s vw fr st = true → PS X st (TS_ X.K ct fr W U0 H0 (evS G.P F Γ s))) : SSound ct G F Γ k fdm s :=
  ⟨h, fun X W vw fr sts U0 H0 xs q => by rw [hs] at q; cases q⟩
theorem chkR_ok (xs : XS ct G F Γ k fdm X W vw U0 H0) : ∀ (s : Sx) {a : Expr}, chkR G s vw fr a = true → PR X a (TS_ X.K ct fr W U0 H0 (evS G.P F Γ s))
  | .ret e, a, h => r_ret ((chk_sound e).e _ _ _ _ _ xs.x h)
  | .retv i, a, h => by
    cases a with
    | Name n p =>
      obtain ⟨t1, t2, t3, t4⟩ := xs.x.slot (show slotB G vw i n = true from h)
      exact r_retv t1 t2 t3 t4
    | _ => cases h
  | .ite c s r, a, h => by
    cases a with
    | IfExp e x y p =>
      have h : ((chk G c).t vw e && (chkR G s vw fr x && chkR G r vw fr y)) = true := h
      simp only [Bool.and_eq_true] at h
      exact r_ite ((chk_sound c).t _ _ _ _ xs.x h.1) (chkR_ok xs s h.2.1) (chkR_ok xs r h.2.2)
    | _ => cases h
theorem takes_wf {X : Cx} : Takes X WF := fun u s' ⟨_, _, _, _, _, _, _, _, _, _, _, _, _, _, _, _, z⟩ => z.elim
theorem chkS_sound : ∀ (s : Sx) (ct : CT), SSound ct G F Γ k fdm s
  | .nil, ct => ⟨fun X W vw fr st U0 H0 xs q => (by cases q), fun X W vw fr sts U0 H0 xs q => by
      cases sts with
      | nil => exact s_nil
      | cons _ _ => cases q⟩
  | .seq s r, ct => ⟨fun X W vw fr st U0 H0 xs q => (by cases q), fun X W vw fr sts U0 H0 xs q => by
      cases sts with
      | nil => cases q
      | cons st rest =>
        have q : ((chkS G s).s vw fr st && (chkS G r).ss vw fr rest) = true := q
        rw [Bool.and_eq_true] at q
        exact s_cons ((chkS_sound s ct).s _ _ _ _ _ _ _ xs q.1) ((chkS_sound r ct).ss _ _ _ _ _ _ _ xs q.2)⟩
  | .asg t e, ct => .one rfl fun X W vw fr st U0 H0 xs q => ((Bool.or_eq_true _ _).mp q).elim (cAsg_ok xs) (cAct_ok xs)
  | .par is es, ct => .one rfl fun X W vw fr st U0 H0 xs q => ((Bool.or_eq_true _ _).mp q).elim (cPar_ok xs) (cParT_ok xs)
  | .setAt i n e, ct => .one rfl fun X W vw fr st U0 H0 xs q => cSetAt_ok xs q
  | .app i e, ct => .one rfl fun X W vw fr st U0 H0 xs q => cApp_ok xs q
  | .aug i e, ct => .one rfl fun X W vw fr st U0 H0 xs q => by
      simp only [chkS] at q
      split at q
      · rw [Bool.and_eq_true] at q
        obtain ⟨t1, t2, t3⟩ := xs.x.tgt q.1
        exact s_aug xs.x.nd t1 t2 t3 ((chk_sound e).e _ _ _ _ _ xs.x q.2)
      · cases q
  | .expr e, ct => .one rfl fun X W vw fr st U0 H0 xs q => by
      cases st with
      | Expr a p =>
        have q : (notComp a && (chk G e).e vw .bn a) = true := q
        rw [Bool.and_eq_true] at q
        exact s_expr (notComp_ok q.1) ((chk_sound e).e _ _ _ _ _ xs.x q.2)
      | _ => cases q
  | .ite c a b, ct => .one rfl fun X W vw fr st U0 H0 xs q => by
      cases st with
      | If e p r pos =>
        have q : ((chk G c).t vw e && ((chkS G a).ss vw fr p && (chkS G b).ss vw fr r)) = true := q
        simp only [Bool.and_eq_true] at q
        exact s_ite ((chk_sound c).t _ _ _ _ xs.x q.1) ((chkS_sound a ct).ss _ _ _ _ _ _ _ xs q.2.1) ((chkS_sound b ct).ss _ _ _ _ _ _ _ xs q.2.2)
      | Return v p =>
        cases v with
        | some x => exact ps_retR (chkR_ok xs (.ite c a b) q)
        | none => cases q
      | _ => cases q
  | .for_ t it b, ct => .one rfl fun X W vw fr st U0 H0 xs q => by
      simp only [chkS] at q
      split at q
      · simp only [Bool.and_eq_true, Bool.not_eq_true'] at q
        exact s_for (xs.hp q.1.1) (xs.x.cold q.1.1).calm (notSet_ok q.1.2) ((chk_sound it).i _ _ _ _ _ _ xs.x q.2.1) ((chkG_sound t).g _ _ _ _ _ _ _ xs.x q.2.2.1) ((chkS_sound b ct).ss _ _ _ _ _ _ _ xs q.2.2.2)
      · cases q
  | .forz t i b, ct => .one rfl fun X W vw fr st U0 H0 xs q => by
      simp only [chkS] at q
      split at q
      · simp only [Bool.and_eq_true, Bool.not_eq_true'] at q
        exact s_forz (s_for (xs.hp q.1.1) (xs.x.cold q.1.1).calm (notSet_ok q.1.2) ((chk_sound (.var i)).i _ _ _ _ _ _ xs.x q.2.1) ((chkG_sound t).g _ _ _ _ _ _ _ xs.x q.2.2.1) ((chkS_sound b ct).ss _ _ _ _ _ _ _ xs q.2.2.2))
      · cases q
  | .while_ c b, ct => .one rfl fun X W vw fr st U0 H0 xs q => by
      simp only [chkS] at q
      split at q
      · simp only [Bool.and_eq_true, Bool.not_eq_true'] at q
        exact s_while (xs.hp q.1.1) ((chk_sound c).t _ _ _ _ xs.x q.1.2) ((chkS_sound b ct).ss _ _ _ _ _ _ _ xs q.2)
      · cases q
  | .brk, ct => .one rfl fun X W vw fr st U0 H0 xs q => by
      cases st with
      | Break p => exact s_brk
      | _ => cases q
  | .cont, ct => .one rfl fun X W vw fr st U0 H0 xs q => by
      cases st with
      | Continue p => exact s_cont
      | _ => cases q
  | .pass, ct => .one rfl fun X W vw fr st U0 H0 xs q => by
      cases st with
      | Pass p => exact s_pass
      | _ => cases q
  | .ret e, ct => .one rfl fun X W vw fr st U0 H0 xs q => by
      cases st with
      | Return v p =>
        cases v with
        | some a => exact s_ret ((chk_sound e).e _ _ _ _ _ xs.x q)
        | none =>
          have h := isNone_ok (e := e) q
          subst h
          exact s_retN
      | _ => cases q
  | .retv i, ct => .one rfl fun X W vw fr st U0 H0 xs q => by
      simp only [chkS] at q
      split at q
      · obtain ⟨t1, t2, t3, t4⟩ := xs.x.slot q
        exact s_retv t1 t2 t3 t4
      · cases q
  | .stop, ct => ⟨fun X W vw fr st U0 H0 xs q => ⟨fun pins s σ H D I h => by obtain ⟨_, _, _, _, _, h, _⟩ := h; exact h.elim⟩, fun X W vw fr sts U0 H0 xs q => ⟨fun pins s σ H D I h => by obtain ⟨_, _, _, _, _, h, _⟩ := h; exact h.elim⟩⟩
  | .ins _ _ _, ct => .one rfl fun X W vw fr st U0 H0 xs q => (by cases q)
  | .pop _, ct => .one rfl fun X W vw fr st U0 H0 xs q => (by cases q)
  | .raise _ _, ct => .one rfl fun X W vw fr st U0 H0 xs q => cRaise_ok xs q
  | .try_ sb cs l x sh, ct => .one rfl fun X W vw fr st U0 H0 xs q => by
      have xo := xs.x
      have q : cTry G cs l x (chkS G sb).ss (chkS G sh).ss vw fr st = true := q
      unfold cTry at q
      split at q
      · split at q
        · simp only [Bool.and_eq_true, Bool.not_eq_true', decide_eq_true_eq] at q
          obtain ⟨hh, hm, ⟨n1, n2⟩, ⟨g1, g2, g3⟩, ⟨k1, k2, k3⟩, cb, ch⟩ := q
          have cd := xo.cold hh
          have nm : ∀ {y : Str} {c : Nat}, globB vw y = true → (y, c) ∈ G.kls → Names X y (.ref (ct.ad c)) := fun hg hk => ⟨(xo.glob hg).1, (xo.glob hg).2, .inl (xo.gf.kl _ _ hk)⟩
          refine s_try3 cd.hxn rfl xs.stk xs.frm xo.nd (by rw [xo.hN]; exact n1) (by unfold Env.kindOf; rw [xo.hs]; exact n2) (nm g1 k1) (nm g2 k2) (nm g3 k3) xo.tk (xo.gf.xm _ _ _ _ hm) (fun W' pn xe tk hp => ?_) (fun a oe c dx pn ho => ?_)
          · refine (chkS_sound sb ct).ss _ _ vw fr _ _ _ ⟨xs.stk, xs.frm, xs.act, ?_, fun _ => hp⟩ cb
            exact {
              hN := xo.hN
              hs := xo.hs
              nd := xo.nd
              un := xo.un
              gd := xo.gd
              tk := tk
              tg := xo.tg
              gf := xo.gf
              cold := fun _ => ⟨cd.calm, cd.hxn, cd.room, cd.room2, cd.room3, ⟨cd.fa.fn, cd.fa.no, cd.fa.pt⟩, cd.tab, cd.gfw, fun h => ⟨(cd.fq h).fn, (cd.fq h).pt⟩, cd.told⟩
              hotp := fun z => by rw [hh] at z; cases z }
          · refine (chkS_sound sh _).ss _ _ { vw with hot := true } fr _ _ _ ⟨xs.stk, xs.frm, fun _ z => (by cases z), ?_, fun z => (by cases z)⟩ ch
            exact {
              hN := xo.hN
              hs := xo.hs
              nd := xo.nd
              un := xo.un
              gd := xo.gd
              tk := takes_wf
              tg := xo.tg
              gf := cd.gfw _
              cold := fun z => (by cases z)
              hotp := fun _ => ⟨⟨(a, oe), c, dx, List.mem_cons_self, ho⟩, ⟨⟨cd.room.r.dp, cd.room.r.un⟩, cd.room.g⟩, ⟨(cd.fq _).fn, (cd.fq _).pt⟩⟩ }
        · cases q
      · cases q
end
end Sb
set_option linter.all false
set_option maxRecDepth 20000
set_option maxHeartbeats 4000000
set_option autoImplicit false
/-! A28: defs, by levels. -/
namespace Sb
open PySem PySem.Spec PyProof.Rows L2
/-- a def's object -/
structure FnI (K : PySem.W.Frag) (a : Addr) (fd : FuncData) (fn : Fn) (body : List Stmt) (scope : Scope) : Prop where
  ex : ∃ (oc : Value) (od : Option Addr) (osl : Array (Option Value)) (name qual : Str) (params : Arguments) (dV kV doc pm : Value) (an : Option Addr) (cdv cv : Value),
    fd = PySem.W.fnOf name qual params body scope dV kV doc pm an cdv cv ∧ K.lookup a = some ⟨oc, od, .func fd, osl⟩ ∧ PySem.W.codeIn K cdv qual = true
  sc : FnScope fn.names (fn.names.take fn.np) scope
  np : (fn.names.take fn.np).length = fn.np
def Sc.at (G : Sc) (fn : Fn) : Sc := { G with N := fn.names, lam := fn.lam, clo := fn.clo }
def vw0 (scope : Scope) (fn : Fn) : Vw := { sc := scope, own := scope, hot := fn.hot && !fn.clo }
theorem GF0.at {K : PySem.W.Frag} {mg : Str → Option Value} {ct : CT} {G : Sc} (g : GF0 K mg ct G) (fn : Fn) : GF0 K mg ct (G.at fn) := ⟨g.fn, g.kl, g.co, g.bi, g.cf, g.kit, g.pp, g.pl, g.xi, g.xt, g.xa, g.xm, g.xr, g.ps, g.pe, g.ph, g.pb, g.cm⟩
section
variable {P : Program} {w : World} {K : PySem.W.Frag} {mg : Str → Option Value} {base : Heap} {ct : CT} {G : Sc} {F : Fsem} {Γ : List Clo} {k : Nat} {fdm : Nat → FuncData}
/-- the same of any place -/
structure FA0 (P : Program) (w : World) (K : PySem.W.Frag) (mg : Str → Option Value) (base : Heap) (ct : CT) (G : Sc) (F : Fsem) (Γ : List Clo) (k : Nat) (fdm : Nat → FuncData) : Prop where
  fn : ∀ f fn, G.P.fns[f]? = some fn → (fn.names.take fn.np).length = fn.np ∧ FnG P w K mg base k (ct.fa f) (fdm f) (fn.names.take fn.np) (FSp K ct fn.fresh fun args S Q E => F Γ f args S Q E)
  no : ∀ f args S Q E, G.P.fns[f]? = none → ¬ F Γ f args S Q E
  pt : ∀ f n ks idx fn, (f, n, ks, idx) ∈ G.pat → G.P.fns[f]? = some fn → BindF K ct (fdm f) (fn.names.take fn.np) fn.dfl n ks idx
structure FQ0 (P : Program) (w : World) (K : PySem.W.Frag) (mg : Str → Option Value) (base : Heap) (ct : CT) (G : Sc) (F : Fsem) (Γ : List Clo) (k : Nat) (fdm : Nat → FuncData) : Prop where
  fn : ∀ f fn, G.P.fns[f]? = some fn → fn.clo = false → fn.hot = true → (fn.names.take fn.np).length = fn.np ∧ FnQ P w K mg base ct k (ct.fa f) (fdm f) (fn.names.take fn.np) (FSp K ct fn.fresh fun args S Q E => F Γ f args S Q E)
/-- all defs at a level -/
structure All0 (P : Program) (w : World) (K : PySem.W.Frag) (mg : Str → Option Value) (base : Heap) (ct : CT) (G : Sc) (F : Fsem) (k : Nat) (fdm : Nat → FuncData) : Prop where
  fa : ∀ Γ c, FA0 P w K mg base (ct.w none c) G F Γ k fdm
  fq : ∀ Γ h c, FQ0 P w K mg base (ct.w h c) G F Γ k fdm
  told : ∀ c f fn, G.P.fns[f]? = some fn → fn.clo = true → ToldG P w K mg base (ct.w none c) (k + 4) (ct.fa f) (fdm f) fn fun cl S Q E => F [cl] f [.clo 0] S Q E
/-- what the head tells of the defs -/
structure Hd (K : PySem.W.Frag) (mg : Str → Option Value) (ct : CT) (G : Sc) (fdm : Nat → FuncData) : Prop where
  fn : ∀ f fn, G.P.fns[f]? = some fn → ∃ body scope, FnI K (ct.fa f) (fdm f) fn body scope ∧ (chkS (G.at fn) fn.body).ss (vw0 scope fn) fn.fresh body = true
  pt : ∀ f n ks idx fn, (f, n, ks, idx) ∈ G.pat → G.P.fns[f]? = some fn → BindF K ct (fdm f) (fn.names.take fn.np) fn.dfl n ks idx
  gf : GF0 K mg ct G
theorem start_get {ds : List D} {vs : List V} {N : List Str} {U : Um} {H : Hp} (h : Paired (fun d v => AnV K ct U H v d) ds vs) {i : Nat} {d : D} (hi : (startE N.length ds)[i]? = some (some d)) : ∃ v, (L2.start N vs)[i]? = some (some v) ∧ AnV K ct U H v d := by
  unfold startE at hi
  by_cases hl : i < ds.length
  · rw [List.getElem?_append_left (by rw [List.length_map]; exact hl), List.getElem?_map] at hi
    cases e : ds[i]? with
    | none => rw [e] at hi; cases hi
    | some d' =>
      rw [e] at hi; cases hi
      obtain ⟨v, h1, h2⟩ := paired_get h i _ e
      refine ⟨v, ?_, h2⟩
      unfold L2.start
      have := paired_len h
      rw [List.getElem?_append_left (by rw [List.length_map]; omega), List.getElem?_map, h1]; rfl
  · rw [List.getElem?_append_right (by rw [List.length_map]; omega)] at hi
    obtain ⟨_, hh⟩ := List.getElem?_eq_some_iff.mp hi
    simp at hh
/-- where a def that makes lambdas has its table -/
def LamD (base : Heap) (mg : Str → Option Value) (ct : CT) (fd : FuncData) : Prop := ∃ c P, fd.code = .ref c ∧ LamX.TabB base mg c P ∧ (P, fd.qualname ++ ".<locals>." ++ "<lambda>") ∈ ct.tb ∧ ∀ z, (P, z) ∈ ct.tb → z = fd.qualname ++ ".<locals>." ++ "<lambda>"
/-- the context of a def's body -/
theorem cold_cx {c : Option (Addr × Addr × Str)} {fn : Fn} {a : Addr} {qual : Str} {scope : Scope} {cdv : Value} {A : Around} {outer : List PySem.Env} {s : Shared} {H : Hp} {E : XK} {vw : Vw} (AA : All0 P w K mg base ct G F k fdm) (HW : ∀ h c, Hd K mg (ct.w h c) G fdm) (rm : RoomG (k + 4) (A.deeper (envOfC qual scope s.heap.objs.size a cdv)))
    (tab : fn.lam = true → TabX (cxOf (L2.CX P w) P w K mg base fn.names qual scope a cdv A outer s H E) (ct.w none c)) : Cold (ct.w none c) (G.at fn) F Γ k fdm (cxOf (L2.CX P w) P w K mg base fn.names qual scope a cdv A outer s H E) vw where
  calm := rfl
  hxn := rfl
  room := rm.mono (by omega)
  room2 := rm.mono (by omega)
  room3 := fun _ => rm
  fa := ⟨(AA.fa Γ c).fn, (AA.fa Γ c).no, (AA.fa Γ c).pt⟩
  tab := fun hl _ => tab hl
  gfw := fun h => (HW h c).gf.at fn
  fq := fun h => ⟨(AA.fq Γ h c).fn, (HW h c).pt⟩
  told := fun _ => AA.told c
theorem cx_tab {c : Option (Addr × Addr × Str)} {fn : Fn} {a : Addr} {name qual : Str} {params : Arguments} {body : List Stmt} {scope : Scope} {dV kV doc pm cdv cv : Value} {an : Option Addr} {A : Around} {outer : List PySem.Env} {s : Shared} {H : Hp} {E : XK} (LD : fn.lam = true → LamD base mg ct (PySem.W.fnOf name qual params body scope dV kV doc pm an cdv cv)) (hl : fn.lam = true) :
    TabX (cxOf (L2.CX P w) P w K mg base fn.names qual scope a cdv A outer s H E) (ct.w none c) := by
  obtain ⟨c, P, h1, h2, h3, h4⟩ := LD hl
  exact ⟨c, P, h2, h1, h3, h4⟩
/-- a def's parameters, as they come -/
theorem start_bd {ct : CT} {fn : Fn} {U : Um} {S : Store} {H : Hp} {ds : List D} {vs : List V} (ok : Ok K ct U S H) (pa : Paired (fun d v => AnV K ct U H v d) ds vs) : Bd K ct U H U S H (L2.start fn.names vs) (startE fn.names.length ds) := by
  refine ⟨ok, ⟨?_, fun i d hi => ?_⟩, ⟨fun i j p xs ys h1 _ _ _ => ?_, fun i p xs h1 _ => ?_, fun i p xs h1 h3 => ?_⟩, .refl⟩
  · unfold L2.start startE
    rw [List.length_append, List.length_append, List.length_map, List.length_map, List.length_replicate, List.length_replicate, paired_len pa]
  · obtain ⟨v, h1, h2⟩ := start_get pa hi
    refine ⟨v, h1, ?_⟩
    cases h2 with
    | of h => exact .of h
    | bor a b c => exact .bor a b c
  · obtain ⟨v, _, h2⟩ := start_get pa h1
    cases h2 with
    | of h => nomatch h
  · obtain ⟨v, _, h2⟩ := start_get pa h1
    cases h2 with
    | of h => nomatch h
  · obtain ⟨v, h4, h2⟩ := start_get pa h1
    rw [h3] at h4; cases h4
    cases h2 with
    | of h => nomatch h
    | bor a b c => rw [b]; simp
theorem ko_of {ct : CT} {fresh : Bool} {U : Um} {H : Hp} {Q E : QD} {Qv : VK} {E' : XK} (po : Po K ct (moR fresh) U H Q Qv) (px : PxE K ct U H E E') :
    KoOk K ct fresh (fun cls d _ H' => E' cls d H') U H U H { nx := fun _ H' => Qv .non H', rt := Qv } { nx := fun _ S => Q .none S, rt := Q, bk := fun _ _ => False, ct := fun _ _ => False, ex := fun _ => E } :=
  ⟨fun U1 S1 H1 σ ρ b _ q => po _ .none U1 S1 H1 b.st b.ok (.flat .non fun _ e => nomatch e) q, fun v d U1 S1 H1 st o md q => po v d U1 S1 H1 st o md q, fun _ _ _ _ _ _ _ q => q.elim, fun _ _ _ _ _ _ _ q => q.elim,
      fun cls da x U1 S1 H1 σ ρ b xn q => px cls da x U1 S1 H1 b.st b.ok xn q⟩
/-- THE RULE: a def whose body is checked -/
theorem fg_of {c : Option (Addr × Addr × Str)} {a : Addr} {fd : FuncData} {fn : Fn} {body : List Stmt} {scope : Scope} (hcl : fn.clo = false) (hho : fn.hot = false) (I : FnI K a fd fn body scope) (hck : (chkS (G.at fn) fn.body).ss (vw0 scope fn) fn.fresh body = true) (AA : All0 P w K mg base ct G F k fdm) (HW : ∀ h c, Hd K mg (ct.w h c) G fdm) (LD : fn.lam = true → LamD base mg ct fd) :
    FnG P w K mg base (k + 5) a fd (fn.names.take fn.np) (FSp K (ct.w none c) fn.fresh fun args S Q E => runF G.P F Γ fn args S Q E) := by
  intro A outer s H args us vs Q E hr e0 hb r hsp
  obtain ⟨U, S, ds, Q', E', ok, pa, ⟨hlen, hev⟩, po, px⟩ := hsp
  obtain ⟨oc, od, osl, name, qual, params, dV, kV, doc, pm, an, cdv, cv, rfl, lk, hcd⟩ := I.ex
  have rm : RoomG (k + 4) (A.deeper (envOfC qual scope s.heap.objs.size a cdv)) := RoomG.deeper hr _
  have hot0 : (vw0 scope fn).hot = false := by unfold vw0; rw [hho]; rfl
  refine LamX.run_ofS (CX := L2.CX P w) (E := E) lk hcd I.sc hr.r e0 hb r (by rw [← paired_len pa, hlen, I.np]) fun room => ⟨TS_ K (ct.w none c) fn.fresh (fun cls d _ H' => E cls d H') U H (evS G.P F Γ fn.body), ?_, ⟨U, S, startE fn.names.length ds, _, start_bd ok pa, hev, ko_of po px⟩⟩
  refine (chkS_sound (G := G.at fn) (k := k) (fdm := fdm) fn.body (ct.w none c)).ss _ _ (vw0 scope fn) fn.fresh body U H ⟨rfl, rfl, fun z => ?_, ?_, fun _ => passes_of rfl⟩ hck
  · have z : fn.clo = true := z
    rw [hcl] at z; cases z
  · exact {
      hN := rfl
      hs := rfl
      nd := I.sc.nd
      un := by have := rm.r.un; show (A.deeper _).units + 65 < cLine; omega
      gd := rm.g
      tk := takes_of rfl rfl rfl rfl
      tg := fun n hn => ⟨loc_of hn, .inl rfl⟩
      gf := (HW none c).gf.at fn
      cold := fun _ => cold_cx AA HW rm fun hl => cx_tab LD hl
      hotp := fun z => by rw [hot0] at z; cases z }
/-- .. that calls the closure that it got -/
theorem told_of {c : Option (Addr × Addr × Str)} {a : Addr} {fd : FuncData} {fn : Fn} {body : List Stmt} {scope : Scope} (hcl : fn.clo = true) (I : FnI K a fd fn body scope) (hck : (chkS (G.at fn) fn.body).ss (vw0 scope fn) fn.fresh body = true) (AA : All0 P w K mg base ct G F k fdm) (HW : ∀ h c, Hd K mg (ct.w h c) G fdm) (LD : fn.lam = true → LamD base mg ct fd) :
    ToldG P w K mg base (ct.w none c) (k + 5) a fd fn fun cl S Q E => runF G.P F [cl] fn [.clo 0] S Q E := by
  intro A outer s H args fl c' qn U S cl Q E Qv E' hr e0 hb ok ⟨hlen, hev⟩ po px hu hc act
  obtain ⟨oc, od, osl, name, qual, params, dV, kV, doc, pm, an, cdv, cv, rfl, lk, hcd⟩ := I.ex
  have rm : RoomG (k + 4) (A.deeper (envOfC qual scope s.heap.objs.size a cdv)) := RoomG.deeper hr _
  have hot0 : (vw0 scope fn).hot = false := by unfold vw0; rw [hcl]; simp
  have np1 : fn.np = 1 := by simpa using hlen.symm
  have ok : Ok K (ct.w none (some (fl, c', qn))) U S H := ok
  have nl : 1 ≤ fn.names.length := by
    have := I.np
    rw [List.length_take, np1] at this
    omega
  refine LamX.run_ofS (CX := L2.CX P w) (E := E') (us := [.ref fl]) (vs := [.ref fl]) lk hcd I.sc hr.r e0 hb (.cons rfl .nil) (by rw [I.np, np1]; rfl) fun room => ⟨TS_ K (ct.w none (some (fl, c', qn))) fn.fresh (fun cls d _ H' => E' cls d H') U H (evS G.P F [cl] fn.body), ?_, ⟨U, S, startE fn.names.length [.clo 0], _, ⟨ok, ⟨?_, fun i d hi => ?_⟩, ⟨fun i j p xs ys h1 _ _ _ => ?_, fun i p xs h1 _ => ?_, fun i p xs h1 h3 => ?_⟩, .refl⟩, hev, ko_of po px⟩⟩
  · refine (chkS_sound (G := G.at fn) (k := k) (fdm := fdm) fn.body (ct.w none (some (fl, c', qn)))).ss _ _ (vw0 scope fn) fn.fresh body U H ⟨rfl, rfl, fun _ _ => ⟨cl, rfl, act⟩, ?_, fun _ => passes_of rfl⟩ hck
    exact {
      hN := rfl
      hs := rfl
      nd := I.sc.nd
      un := by have := rm.r.un; show (A.deeper _).units + 65 < cLine; omega
      gd := rm.g
      tk := takes_of rfl rfl rfl rfl
      tg := fun n hn => ⟨loc_of hn, .inl rfl⟩
      gf := (HW none (some (fl, c', qn))).gf.at fn
      cold := fun _ => cold_cx AA HW rm fun hl => cx_tab LD hl
      hotp := fun z => by rw [hot0] at z; cases z }
  · unfold L2.start startE
    rw [List.length_append, List.length_append, List.length_map, List.length_map, List.length_replicate, List.length_replicate]
    rfl
  · have e0 : i = 0 ∧ d = .clo 0 := by
      unfold startE at hi
      cases i with
      | zero => simp at hi; exact ⟨rfl, hi.symm⟩
      | succ i => simp [List.getElem?_replicate] at hi
    obtain ⟨rfl, rfl⟩ := e0
    exact ⟨.ref fl, by simp [L2.start], .clo (ct := ct.w none (some (fl, c', qn))) rfl hu hc⟩
  all_goals
    exfalso
    unfold startE at h1
    cases i with
    | zero => simp at h1
    | succ i => simp [List.getElem?_replicate] at h1
/-- a def called while an exception is handled -/
theorem run_ofQ {CX : CXT} {f : Addr} {name qual : Str} {params : Arguments} {body : List Stmt} {scope : Scope} {dV kV doc pm cdv cv oc : Value} {an od : Option Addr} {osl : Array (Option Value)} {N ps : List Str} (lk : K.lookup f = some ⟨oc, od, .func (PySem.W.fnOf name qual params body scope dV kV doc pm an cdv cv), osl⟩) (hcd : PySem.W.codeIn K cdv qual = true) (S : FnScope N ps scope)
    {A : Around} {outer : List PySem.Env} {s : Shared} {H : Hp} {args : Args} {us : List Value} {vs : List V} {Q : VK} {E : XK} {p : Addr × Obj} (hr : A.depth < recursionLimit) (hpin : L2H.PinOk outer H s p) (e0 : Env0 P w K mg base A outer s H) (hb : BindsTo s (PySem.W.fnOf name qual params body scope dV kV doc pm an cdv cv) args (ps.zip us)) (r : Vals vs us) (hl : vs.length = ps.length)
    (hbody : ∃ t, PSs (L2H.cxH CX P w K mg base N qual scope f cdv A outer s H E p) body t ∧ t { nx := fun _ H' => Q .non H', rt := Q } (L2.start N vs) H) : codeAny (model P w) A (.call (.ref f) args) (L2.CR CX outer P w H s Q E) s := by
  have KX : K.In s.heap := e0.mod.kin.keeps fun b o e => (e0.bs b o e).1
  have lim : s.heap.NoLimit := e0.mod.nolimit.keeps fun b o e => (e0.bs b o e).1
  have hkind : ∀ y ∈ ps.zip us, scope.names.lookup y.1 = some .local ∨ (scope.names.lookup y.1 = some .cell ∧ ((cellsFrom (s.heap.objs.size + 1) scope.names []).lookup y.1).isSome = true) := fun ⟨n, v⟩ hy => by
    rcases S.par n (List.of_mem_zip hy).1 with q | q
    · exact .inl q
    · exact .inr ⟨q, PySem.W.cellsFrom_some _ _ _ (.inl q)⟩
  refine codeAny_call_function hr (KX _ _ lk) rfl S.co S.gen rfl (PySem.W.codeRec_of KX hcd) (hb _ _ _ _ ?_)
  refine wpAny_newFunctionEnv_cells S.kind hkind fun env he s1 x => ?_
  subst he
  refine ⟨lim.keeps x.toInCall.keep, codeAny_func ?_⟩
  obtain ⟨t, ht, hq⟩ := hbody
  have I : Inv (L2H.cxH CX P w K mg base N qual scope f cdv A outer s H E p) [] (L2.start N vs) H s1 := L2H.inv_startH S hpin e0 hl r x
  refine wpAny_mono (ht.run [] s1 (L2.start N vs) H _ I hq) (fun fl s' hs => ?_) fun e s' hs => hs
  have fin : ∀ {σ' : L2.St} {H' : Hp} {v : V} {u : Value}, Inv (L2H.cxH CX P w K mg base N qual scope f cdv A outer s H E p) [] σ' H' s' → RelV v u → Q v H' → CE outer P w H s Q u s' :=
    fun {σ' H' v u} J rv q => ⟨v, H', J.os, J.bare, J.base, J.hok, rv, q⟩
  cases fl with
  | ret u =>
    obtain ⟨v, σ', H', J, rv, q⟩ := hs
    exact fin J rv q
  | next =>
    obtain ⟨σ', H', J, q⟩ := hs
    exact fin (v := V.non) (u := Value.none) J rfl q
  | brk =>
    obtain ⟨_, _, _, q⟩ := hs
    exact False.elim q
  | cont =>
    obtain ⟨_, _, _, q⟩ := hs
    exact False.elim q
theorem fq_of {h : Option (Addr × Nat × Addr)} {c : Option (Addr × Addr × Str)} {a : Addr} {fd : FuncData} {fn : Fn} {body : List Stmt} {scope : Scope} (hcl : fn.clo = false) (hho : fn.hot = true) (I : FnI K a fd fn body scope) (hck : (chkS (G.at fn) fn.body).ss (vw0 scope fn) fn.fresh body = true) (AA : All0 P w K mg base ct G F k fdm) (HW : ∀ h c, Hd K mg (ct.w h c) G fdm) :
    FnQ P w K mg base (ct.w h c) (k + 5) a fd (fn.names.take fn.np) (FSp K (ct.w h c) fn.fresh fun args S Q E => runF G.P F Γ fn args S Q E) := by
  intro A outer s H args us vs Q E p i dx hr hpin ho e0 hb r hsp
  obtain ⟨U, S, ds, Q', E', ok, pa, ⟨hlen, hev⟩, po, px⟩ := hsp
  obtain ⟨oc, od, osl, name, qual, params, dV, kV, doc, pm, an, cdv, cv, rfl, lk, hcd⟩ := I.ex
  have rm : RoomQ (k + 4) (A.deeper (envOfC qual scope s.heap.objs.size a cdv)) := RoomQ.deeper hr _
  have hot1 : (vw0 scope fn).hot = true := by unfold vw0; rw [hho, hcl]; rfl
  refine run_ofQ (CX := L2.CX P w) (E := E) lk hcd I.sc hr.r.depth hpin e0 hb r (by rw [← paired_len pa, hlen, I.np]) ⟨TS_ K (ct.w h c) fn.fresh (fun cls d _ H' => E cls d H') U H (evS G.P F Γ fn.body), ?_, ⟨U, S, startE fn.names.length ds, _, start_bd ok pa, hev, ko_of po px⟩⟩
  refine (chkS_sound (G := G.at fn) (k := k) (fdm := fdm) fn.body (ct.w h c)).ss _ _ (vw0 scope fn) fn.fresh body U H ⟨rfl, rfl, fun _ z => ?_, ?_, fun z => ?_⟩ hck
  · rw [hot1] at z; cases z
  · exact {
      hN := rfl
      hs := rfl
      nd := I.sc.nd
      un := by have := rm.r.un; show (A.deeper _).units + 65 < cLine; omega
      gd := rm.g
      tk := takes_of rfl rfl rfl rfl
      tg := fun n hn => ⟨loc_of hn, .inl rfl⟩
      gf := (HW h c).gf.at fn
      cold := fun z => by rw [hot1] at z; cases z
      hotp := fun _ => ⟨⟨p, i, dx, List.mem_singleton.mpr rfl, ho⟩, rm.mono (by omega), ⟨(AA.fq Γ h c).fn, (HW h c).pt⟩⟩ }
  · rw [hot1] at z; cases z
theorem fa_all (HW : ∀ h c, Hd K mg (ct.w h c) G fdm) (LD : ∀ f fn, G.P.fns[f]? = some fn → fn.lam = true → LamD base mg ct (fdm f)) : ∀ n : Nat, All0 P w K mg base ct G (Fs G.P n) (5 * n) fdm
  | 0 => ⟨fun Γ c => ⟨fun f fn hf => by
      obtain ⟨body, scope, I, _⟩ := (HW none c).fn f fn hf
      exact ⟨I.np, fun A outer s H args us vs Q E hr e0 hb r ⟨_, _, _, _, _, _, _, z, _⟩ => z.elim⟩, fun _ _ _ _ _ _ z => z, (HW none c).pt⟩,
      fun Γ h c => ⟨fun f fn hf _ _ => by
      obtain ⟨body, scope, I, _⟩ := (HW none c).fn f fn hf
      exact ⟨I.np, fun A outer s H args us vs Q E p i dx hr hp ho e0 hb r ⟨_, _, _, _, _, _, _, z, _⟩ => z.elim⟩⟩,
      fun c f fn hf _ A outer s H args fl c' qn U S cl Q E Qv E' hr e0 hb ok z => z.elim⟩
  | n + 1 => by
    have AA := fa_all HW LD n
    refine ⟨fun Γ c => ⟨fun f fn hf => ?_, fun f args S Q E hf z => ?_, (HW none c).pt⟩, fun Γ h c => ⟨fun f fn hf hcl hho => ?_⟩, fun c f fn hf hcl => ?_⟩
    · obtain ⟨body, scope, I, hck⟩ := (HW none c).fn f fn hf
      refine ⟨I.np, ?_⟩
      intro A outer s H args us vs Q E hr e0 hb r ⟨U, S, ds, Q', E', ok, pa, z, po, px⟩
      have z : (match G.P.fns[f]? with | some fn => guardF fn Γ ds (runF G.P (Fs G.P n) Γ fn ds S Q' E') | none => False) := z
      rw [hf] at z
      obtain ⟨z, z1, z2⟩ := guardF_of z
      cases hcl : fn.clo with
      | true =>
        obtain ⟨rfl, _⟩ := z1 hcl
        cases pa with
        | cons h _ => cases h with
          | of h => nomatch h
      | false =>
        cases hho : fn.hot with
        | true =>
          obtain ⟨i, es, r', rfl⟩ := z2 hcl hho
          cases pa with
          | cons h _ => cases h with
            | of h => cases h with
              | exc e _ _ _ _ => cases e
        | false => exact fg_of (P := P) (w := w) (base := base) (Γ := Γ) (c := c) hcl hho I hck AA HW (LD f fn hf) A outer s H args us vs Q E hr e0 hb r ⟨U, S, ds, Q', E', ok, pa, z, po, px⟩
    · have z : (match G.P.fns[f]? with | some fn => guardF fn Γ args (runF G.P (Fs G.P n) Γ fn args S Q E) | none => False) := z
      rw [hf] at z
      exact z
    · obtain ⟨body, scope, I, hck⟩ := (HW none c).fn f fn hf
      refine ⟨I.np, ?_⟩
      intro A outer s H args us vs Q E p i dx hr hp ho e0 hb r ⟨U, S, ds, Q', E', ok, pa, z, po, px⟩
      have z : (match G.P.fns[f]? with | some fn => guardF fn Γ ds (runF G.P (Fs G.P n) Γ fn ds S Q' E') | none => False) := z
      rw [hf] at z
      obtain ⟨z, _, _⟩ := guardF_of z
      exact fq_of (P := P) (w := w) (base := base) (Γ := Γ) (h := h) (c := c) hcl hho I hck AA HW A outer s H args us vs Q E p i dx hr hp ho e0 hb r ⟨U, S, ds, Q', E', ok, pa, z, po, px⟩
    · obtain ⟨body, scope, I, hck⟩ := (HW none c).fn f fn hf
      intro A outer s H args fl c' qn U S cl Q E Qv E' hr e0 hb ok z po px hu hc act
      have z : (match G.P.fns[f]? with | some fn => guardF fn [cl] [.clo 0] (runF G.P (Fs G.P n) [cl] fn [.clo 0] S Q E) | none => False) := z
      rw [hf] at z
      obtain ⟨z, _, _⟩ := guardF_of z
      exact told_of (P := P) (w := w) (base := base) (c := c) hcl I hck AA HW (LD f fn hf) A outer s H args fl c' qn U S cl Q E Qv E' (hr.mono (by omega)) e0 hb ok z po px hu hc act
end
end Sb
set_option linter.all false
set_option maxRecDepth 20000
set_option autoImplicit false
/-! B0: what the head is asked. -/
namespace Sb
open PySem PySem.Spec PyProof.Rows L2
def scopeB (N : List Str) (np : Nat) (sc : Scope) : Bool :=
  decide (sc.kind = .function) && (!sc.isCoroutine && (!sc.isGenerator && (decide N.Nodup && (decide ((N.take np).length = np) && ((N.take np).all (fun x => locB sc x) && sc.names.all (fun y => !decide (y.2 = .free)))))))
theorem scopeB_ok {N : List Str} {np : Nat} {sc : Scope} (h : scopeB N np sc = true) : FnScope N (N.take np) sc ∧ (N.take np).length = np := by
  simp only [scopeB, Bool.and_eq_true, decide_eq_true_eq, Bool.not_eq_true', List.all_eq_true, decide_eq_false_iff_not] at h
  obtain ⟨h1, h2, h3, h4, h5, h6, h7⟩ := h
  exact ⟨⟨h1, h2, h3, h4, by rw [h5], fun x hx => loc_of (h6 x hx), fun y hy => h7 y hy⟩, h5⟩
/-- the def's object, checked -/
def fnB (K : PySem.W.Frag) (a : Addr) (G : Sc) (fn : Fn) : Bool := match K.lookup a with
  | some ⟨_, _, .func fd, _⟩ => (match fd.body with
    | .stmts body => decide (fd.globals = mainGlobals) && (decide (fd.builtins = builtinsNs) && (fd.closure.isEmpty && (PySem.W.codeIn K fd.code fd.qualname && (scopeB fn.names fn.np fd.scope && (chkS (G.at fn) fn.body).ss (vw0 fd.scope fn) fn.fresh body))))
    | _ => false)
  | _ => false
/-- .. and what it is -/
def fdOf (K : PySem.W.Frag) (a : Addr) : FuncData := match K.lookup a with
  | some ⟨_, _, .func fd, _⟩ => fd
  | _ => default
theorem fnB_ok {K : PySem.W.Frag} {a : Addr} {G : Sc} {fn : Fn} (h : fnB K a G fn = true) : ∃ body scope, FnI K a (fdOf K a) fn body scope ∧ (chkS (G.at fn) fn.body).ss (vw0 scope fn) fn.fresh body = true := by
  unfold fnB at h
  split at h
  · rename_i oc od fd osl lk
    split at h
    · rename_i body hb
      simp only [Bool.and_eq_true, decide_eq_true_eq] at h
      obtain ⟨h1, h2, h3, h4, h5, h6⟩ := h
      obtain ⟨s1, s2⟩ := scopeB_ok h5
      have e : fdOf K a = fd := by unfold fdOf; rw [lk]
      refine ⟨body, fd.scope, ⟨⟨oc, od, osl, fd.name, fd.qualname, fd.params, fd.defaults, fd.kwdefaults, fd.doc, fd.pyModule, fd.annotations, fd.code, fd.closureTuple, ?_, by rw [e]; exact lk, h4⟩, s1, s2⟩, h6⟩
      rw [e]
      have h3' : fd.closure = [] := List.isEmpty_iff.mp h3
      cases fd
      simp only at hb h1 h2 h3'
      subst hb h1 h2 h3'
      rfl
    · cases h
  · cases h
/-- classes -/
def clsB (K : PySem.W.Frag) (C : Addr) : Bool := PySem.W.plainGet K C Str.empty && (PySem.W.hasDictIn K C && (PySem.W.plainOver K C && decide (PySem.W.findIn K (.ref C) "__setattr__" = some (some (.builtin "object.__setattr__")))))
theorem clsB_ok {K : PySem.W.Frag} {C : Addr} (h : clsB K C = true) : Cls K C := by
  simp only [clsB, Bool.and_eq_true, decide_eq_true_eq] at h
  exact ⟨h.1, h.2.1, h.2.2.1, h.2.2.2⟩
def isfB (K : PySem.W.Frag) (C : Addr) : Bool := decide (PySem.W.findIn K (.ref C) "__class__" = some (some (.builtin "object.__class__"))) && (decide (PySem.W.specialIn K (.builtin "object.__class__") "__get__" = some (some (.builtin "getset_descriptor.__get__"))) && (decide (PySem.W.takesIn K (.builtin "object.__class__") = some true) && decide (PySem.W.mroIn K C (.type "object") = some true)))
theorem isfB_ok {K : PySem.W.Frag} {C : Addr} (h : isfB K C = true) : IsF K C := by
  simp only [isfB, Bool.and_eq_true, decide_eq_true_eq] at h
  exact ⟨h.1, h.2.1, h.2.2.1, h.2.2.2⟩
def mkB (K : PySem.W.Frag) (C f : Addr) : Bool := PySem.W.makesIn K C && (decide (PySem.W.findIn K (.ref C) "__init__" = some (some (.ref f))) && (PySem.W.isFn K (.ref f) && PySem.W.keepIn K (.ref C)))
theorem mkB_ok {K : PySem.W.Frag} {C f : Addr} (h : mkB K C f = true) : Mk K C f := by
  simp only [mkB, Bool.and_eq_true, decide_eq_true_eq] at h
  exact ⟨h.1, h.2.1, h.2.2.1, h.2.2.2⟩
/-- a property: its object, its getter -/
def prObj (K : PySem.W.Frag) (C : Addr) (f : Str) : Addr := match PySem.W.findIn K (.ref C) f with
  | some (some (.ref p)) => p
  | _ => 0
def prFn (K : PySem.W.Frag) (C : Addr) (f : Str) : Addr := match PySem.W.recIn K (prObj K C f) "property" with
  | some (.ref g :: _) => g
  | _ => 0
/-- the def of a classmethod -/
def cmFn (K : PySem.W.Frag) (C : Addr) (m : Str) : Addr := match PySem.W.recIn K (He.ma K C m) "classmethod" with
  | some (.ref g :: _) => g
  | _ => 0
def cmB (K : PySem.W.Frag) (C : Addr) (m : Str) (g : Addr) : Bool := PySem.W.readsIn K C (.type "type") && (decide (PySem.W.specialIn K (.ref C) "__getattribute__" = some (some (.builtin "type.__getattribute__"))) &&
  (match PySem.W.findCls K (.ref C) (.type "type") m with
    | some (.get (.builtin i) (.ref p) .none (.ref C')) => decide (i = "classmethod.__get__") && (decide (C' = C) && ((match PySem.W.recIn K p "classmethod" with
      | some (.ref g' :: _) => decide (g' = g)
      | _ => false) && PySem.W.fnIn K g))
    | _ => false))
theorem cmB_ok {K : PySem.W.Frag} {C g : Addr} {m : Str} (h : cmB K C m g = true) : ∃ mc pr, ClX.CRead K C mc ∧ ClX.CMet K C mc m pr g := by
  simp only [cmB, Bool.and_eq_true, decide_eq_true_eq] at h
  obtain ⟨h1, h2, h3⟩ := h
  split at h3
  · rename_i i p C' e
    simp only [Bool.and_eq_true, decide_eq_true_eq] at h3
    obtain ⟨rfl, rfl, h4, h5⟩ := h3
    split at h4
    · rename_i g' r e2
      have := of_decide_eq_true h4
      subst this
      exact ⟨_, p, ⟨h1, h2⟩, ⟨e, ⟨_, e2⟩, h5⟩⟩
    · cases h4
  · cases h3
def prB (K : PySem.W.Frag) (C : Addr) (f : Str) (g : Addr) : Bool := decide (PySem.W.findIn K (.ref C) f = some (some (.ref (prObj K C f)))) && (decide (PySem.W.specialIn K (.ref (prObj K C f)) "__get__" = some (some (.builtin "property.__get__"))) && (decide (PySem.W.takesIn K (.ref (prObj K C f)) = some true) &&
  (match PySem.W.recIn K (prObj K C f) "property" with
    | some (.ref g' :: _) => decide (g' = g)
    | _ => false)))
theorem prB_ok {K : PySem.W.Frag} {C g : Addr} {f : Str} (h : prB K C f g = true) : PropOf K C f (prObj K C f) g := by
  simp only [prB, Bool.and_eq_true, decide_eq_true_eq] at h
  obtain ⟨h1, h2, h3, h4⟩ := h
  refine ⟨h1, h2, h3, ?_⟩
  split at h4
  · rename_i g' rest e
    have := of_decide_eq_true h4
    subst this
    exact ⟨rest, e⟩
  · cases h4
/-! ### exceptions -/
def excCB (K : PySem.W.Frag) (D : Addr) : Bool := decide (PySem.W.findIn K (.ref D) "__getattribute__" = some (some (.builtin "BaseException.__getattribute__"))) && (decide (PySem.W.findIn K (.ref D) "__getattr__" = some none) && (decide (PySem.W.subIn K (.ref D) (.type "BaseException") = some true) && (PySem.W.hasDictIn K D && (decide (PySem.W.findIn K (.ref D) "__class__" = some (some (.builtin "object.__class__"))) &&
  (decide (PySem.W.specialIn K (.builtin "object.__class__") "__get__" = some (some (.builtin "getset_descriptor.__get__"))) && (decide (PySem.W.takesIn K (.builtin "object.__class__") = some true) && decide (PySem.W.mroIn K D (.type "object") = some true)))))))
theorem excCB_ok {K : PySem.W.Frag} {D : Addr} (h : excCB K D = true) : ExcC K D := by
  simp only [excCB, Bool.and_eq_true, decide_eq_true_eq] at h
  obtain ⟨h1, h2, h3, h4, h5, h6, h7, h8⟩ := h
  exact ⟨h1, h2, h3, h4, h5, h6, h7, h8⟩
def iniB (K : PySem.W.Frag) (f : Addr) (b : Bool) : Bool := match K.lookup f with
  | some ⟨_, _, .func fd, _⟩ => (match fd.body with
    | .stmts [.Assign [.Attribute (.Name s _) f1 _] (.Name f2 _) _] => decide (fd.globals = mainGlobals) && (decide (fd.builtins = builtinsNs) && (fd.closure.isEmpty && (PySem.W.codeIn K fd.code fd.qualname && (decide (fd.scope = iniS b) && (decide (s = "self" ∧ f1 = fdN b ∧ f2 = fdN b) && ((decide (fd.defaults = .none) && decide (fd.kwdefaults = .none)) && parB fd ["self", fdN b]))))))
    | _ => false)
  | _ => false
theorem iniB_ok {K : PySem.W.Frag} {f : Addr} {b : Bool} (h : iniB K f b = true) : IniO K f b := by
  unfold iniB at h
  split at h
  · rename_i oc od fd osl lk
    split at h
    · rename_i s q1 f1 q2 f2 q3 q4 hb
      simp only [Bool.and_eq_true, decide_eq_true_eq] at h
      obtain ⟨h1, h2, h3, h4, h5, ⟨rfl, rfl, rfl⟩, ⟨h6, h7⟩, h8⟩ := h
      have h3' : fd.closure = [] := List.isEmpty_iff.mp h3
      obtain ⟨p1, p2, p3, p4, p5⟩ := parB_ok h8
      refine ⟨⟨oc, od, osl, fd.name, fd.qualname, fd.params, q1, q2, q3, q4, fd.doc, fd.pyModule, fd.code, fd.closureTuple, fd.annotations, ?_, h4, p1, p2, p3, p4, p5⟩⟩
      rw [lk]
      cases fd
      simp only at hb h1 h2 h3' h5 h6 h7
      subst hb h1 h2 h3' h5 h6 h7
      rfl
    · cases h
  · cases h
def VEm : List Value := [.type "ValueError", .type "Exception", .type "BaseException", .type "object"]
def LEm : List Value := [.type "LookupError", .type "Exception", .type "BaseException", .type "object"]
def AEm : List Value := [.type "ArithmeticError", .type "Exception", .type "BaseException", .type "object"]
theorem excShape {K : PySem.W.Frag} {C : Addr} {bmB : List Value} {newId : String} (B : BaseE bmB newId) (q : PySem.W.excInitIn K C bmB newId = true) (hd : PySem.W.hasDictIn K C = true) :
    ∃ bmB newId nm q N bs bm sn sub ab col dd k0 k1 k2 k3 k5, BaseE bmB newId ∧ K.lookup C = some (excClassObj nm q C N bs bm true sn sub ab col dd k0 k1 k2 k3 k5 newId) ∧ PySem.W.excTail bmB bm = true := by
  unfold PySem.W.excInitIn at q
  split at q
  · rename_i dd cd sl ho
    split at q
    · rename_i C' bm k0 k1 k2 k3 n k5 hm hs
      simp only [Bool.and_eq_true, beq_iff_eq, Bool.not_eq_true'] at q
      obtain ⟨⟨⟨rfl, rfl⟩, hdel⟩, ht⟩ := q
      have hdd : cd.hasDict = true := by
        unfold PySem.W.hasDictIn PySem.W.clsIn at hd
        rw [ho] at hd
        simpa using hd
      obtain ⟨nm, bs, mro, ns, qn, hd', sn, sub, ab, col, del⟩ := cd
      dsimp only at hm hdel hdd
      subst hm hdel hdd
      have hsl : sl = #[k0, k1, k2, k3, some (.builtin n), k5] := by
        obtain ⟨l⟩ := sl
        simp only at hs
        rw [hs]
      subst hsl
      exact ⟨bmB, n, nm, qn, ns, bs, bm, sn, sub, ab, col, dd, k0, k1, k2, k3, k5, B, ho, ht⟩
    · cases q
  · cases q
def extB (K : PySem.W.Frag) (C : Addr) (b : Bool) : Bool :=
  (PySem.W.excInitIn K C VEm "ValueError.__new__" || (PySem.W.excInitIn K C LEm "LookupError.__new__" || PySem.W.excInitIn K C AEm "ArithmeticError.__new__")) && (decide (PySem.W.findIn K (.ref C) "__setattr__" = some (some (.builtin "object.__setattr__"))) && (decide (PySem.W.findIn K (.ref C) (fdN b) = some none) &&
  ((match PySem.W.findIn K (.ref C) "__init__" with
    | some (some (.ref fI)) => iniB K fI b && decide (PySem.W.typeIn K (.ref fI) = some (.type "function"))
    | _ => false) && (PySem.W.keepIn K (.ref C) && (decide (PySem.W.subIn K (.ref C) (.type "BaseException") = some true) && (decide (PySem.W.typeIn K (.ref C) = some (.type "type")) && (PySem.W.hasDictIn K C &&
  (decide (PySem.W.findIn K (.ref C) "__getattribute__" = some (some (.builtin "BaseException.__getattribute__"))) && decide (PySem.W.findIn K (.ref C) "__getattr__" = some none)))))))))
theorem extB_ok {K : PySem.W.Frag} {C : Addr} {b : Bool} (h : extB K C b = true) : ∃ fI, ExT K C fI b := by
  simp only [extB, Bool.and_eq_true, Bool.or_eq_true, decide_eq_true_eq] at h
  obtain ⟨h1, h2, h3, h4, h5, h6, h7, h8, h9, h10⟩ := h
  split at h4
  · rename_i fI e
    rw [Bool.and_eq_true, decide_eq_true_eq] at h4
    refine ⟨fI, ?_, h2, h3, e, h4.2, h5, h6, h7, h8, h9, h10, iniB_ok h4.1⟩
    rcases h1 with h1 | h1 | h1
    · exact excShape base_VE h1 h8
    · exact excShape base_LE h1 h8
    · exact excShape base_AE h1 h8
  · cases h4
end Sb
set_option linter.all false
set_option maxRecDepth 20000
set_option autoImplicit false
/-! B1: all that the head is asked, as one Bool. -/
namespace Sb
open PySem PySem.Spec PyProof.Rows L2
/-- where a def stands -/
inductive Wh where
  | glob (x : Str) | meth (c m : Str) | prop (c m : Str) | cmeth (c m : Str)
def Wh.ad (K : PySem.W.Frag) : Wh → Addr
  | .glob x => He.ga K x
  | .meth c m => He.ma K (He.ga K c) m
  | .prop c m => prFn K (He.ga K c) m
  | .cmeth c m => cmFn K (He.ga K c) m
/-- the program's places -/
def ctOf (K : PySem.W.Frag) (wh : List Wh) (cn : List Str) (fl : List (List Str)) : CT where
  ad c := He.ga K (cn.getD c Str.empty)
  fl c := fl.getD c []
  fa f := match wh[f]? with
    | some x => x.ad K
    | none => 0
def conB (K : PySem.W.Frag) (G : Sc) (x : Str) (g : Nat) : Bool := match PySem.W.nsIn K mainGlobals x, G.P.consts[g]? with
  | some (some (.int j _)), some (.int i) => decide (j = i)
  | some (some (.str y _)), some (.str z) => decide (y = z)
  | _, _ => false
def tys (n : Nat) : List Ty := [.int, .bool, .str, .tuple, .list, .dict] ++ (List.range n).map .cls
def reps (n : Nat) : List D := [.none, .bool true, .int 0, .str Str.empty, .lst [], .tup [], .sd []] ++ (List.range n).map fun c => .obj c []
/-- an own special method with so many values -/
def spB (K : PySem.W.Frag) (ct : CT) (G : Sc) (C : Addr) (o : Option Nat) (nm : Str) (n : Nat) : Bool := match o with
  | none => true
  | some f => (match G.P.fns[f]? with
    | some fn => decide (PySem.W.findIn K (.ref C) nm = some (some (.ref (ct.fa f)))) && (decide (PySem.W.typeIn K (.ref (ct.fa f)) = some (.type "function")) && (decide ((f, n, [], []) ∈ G.pat) && (decide (fn.np = n) && !fn.fresh)))
    | none => false)
theorem spB_ok {K : PySem.W.Frag} {ct : CT} {G : Sc} {C : Addr} {o : Option Nat} {nm : Str} {n : Nat} (h : spB K ct G C o nm n = true) : ∀ f, o = some f → ∃ fn, G.P.fns[f]? = some fn ∧ PySem.W.findIn K (.ref C) nm = some (some (.ref (ct.fa f))) ∧ PySem.W.typeIn K (.ref (ct.fa f)) = some (.type "function") ∧ (f, n, [], []) ∈ G.pat ∧ fn.np = n ∧ fn.fresh = false := fun f hf => by
  subst hf
  simp only [spB] at h
  cases e : G.P.fns[f]? with
  | none => rw [e] at h; cases h
  | some fn =>
    rw [e] at h
    simp only [Bool.and_eq_true, decide_eq_true_eq, Bool.not_eq_true'] at h
    exact ⟨fn, rfl, h⟩
def clB (K : PySem.W.Frag) (ct : CT) (G : Sc) (c : Nat) (cl : Cl) : Bool :=
  clsB K (ct.ad c) && (isfB K (ct.ad c) && (decide (ct.fl c).Nodup && (decide ((ct.fl c).length = cl.nf) && (decide (cl.nf < 1000) && (mkB K (ct.ad c) (ct.fa cl.init) &&
  (cl.at_.all (fun q => match q.2 with
    | .fld i => (match G.ats[q.1]?, (ct.fl c)[i]? with
      | some f, some f' => decide (f = f') && decide (PySem.W.findIn K (.ref (ct.ad c)) f = some none)
      | _, _ => false)
    | .prop g => (match G.ats[q.1]?, G.P.fns[g]? with
      | some f, some fn => prB K (ct.ad c) f (ct.fa g) && (decide ((g, 1, [], []) ∈ G.pat) && (decide (fn.np = 1) && !fn.fresh))
      | _, _ => false)
    | .meth _ => true) &&
  (match cl.len with
    | none => true
    | some f => (match G.P.fns[f]? with
      | some fn => decide (PySem.W.findIn K (.ref (ct.ad c)) "__len__" = some (some (.ref (ct.fa f)))) && (decide (PySem.W.typeIn K (.ref (ct.fa f)) = some (.type "function")) && (decide ((f, 1, [], []) ∈ G.pat) && (decide (fn.np = 1) && !fn.fresh)))
      | none => false)) && (spB K ct G (ct.ad c) cl.str "__str__" 1 && (spB K ct G (ct.ad c) cl.eq "__eq__" 2 && ((cl.eq.isNone || decide (PySem.W.findIn K (.ref (ct.ad c)) "__ne__" = some (some (.builtin "object.__ne__")))) && (spB K ct G (ct.ad c) cl.has "__contains__" 2 && spB K ct G (ct.ad c) cl.tru "__bool__" 1))))))))))
/-- what is asked of exceptions -/
def exB (K : PySem.W.Frag) (G : Sc) (ct : CT) : Bool :=
  G.P.exs.all (fun q => excCB K (ct.ad q.1) && ((q.2.isEmpty || (decide (ct.fl q.1).Nodup && xfB K (ct.ad q.1))) && q.2.all (fun n => match G.ats[n]?, q.2.idxOf? n with
    | some f, some i => decide ((ct.fl q.1)[i]? = some f) && decide (PySem.W.findIn K (.ref (ct.ad q.1)) f = some none)
    | _, _ => false))) &&
  (G.xts.all (fun z => G.P.exs.all fun q => decide (PySem.W.kitOne K (.ref (ct.ad q.1)) (xtC ct z.1 z.2.1) = some (z.2.2.contains q.1))) &&
  (G.xms.all (fun z => G.P.exs.all fun q => decide (PySem.W.exmAny K (.ref (ct.ad q.1)) (z.1.map fun c => .ref (ct.ad c)) = some (z.2.contains q.1))) &&
  G.xrs.all (fun c => (extB K (ct.ad c) true && decide (ct.fl c = [fdN true])) || (extB K (ct.ad c) false && decide (ct.fl c = [fdN false])))))
def hdB (K : PySem.W.Frag) (G : Sc) (ct : CT) : Bool := (exB K G ct && G.cms.all (fun q => cmB K (ct.ad q.1) q.2.1 (ct.fa q.2.2))) && (
  (List.range G.P.fns.length).all (fun f => match G.P.fns[f]? with
    | some fn => fnB K (ct.fa f) G fn
    | none => false) &&
  (G.fns.all (fun q => decide (PySem.W.nsIn K mainGlobals q.1 = some (some (.ref (ct.fa q.2)))) && PySem.W.keepIn K (.ref (ct.fa q.2))) &&
  (G.kls.all (fun q => decide (PySem.W.nsIn K mainGlobals q.1 = some (some (.ref (ct.ad q.2))))) &&
  (G.cons.all (fun q => conB K G q.1 q.2) &&
  (biNames.all (fun n => decide (PySem.W.nsIn K mainGlobals n = some none)) &&
  ((List.range G.P.cls.length).all (fun c => match G.P.cls[c]? with
    | some cl => clB K ct G c cl
    | none => false) &&
  ((reps G.P.cls.length).all fun d => (tys G.P.cls.length).all fun t => decide (PySem.W.kitOne K (tyU ct d) (tyC ct t) = some (tyD d t)))))))))
theorem hdB_w {K : PySem.W.Frag} {G : Sc} {ct : CT} {h : Option (Addr × Nat × Addr)} {c : Option (Addr × Addr × Str)} : hdB K G (ct.w h c) = hdB K G ct := rfl
theorem fn_lt {α : Type} {l : List α} {i : Nat} {x : α} (h : l[i]? = some x) : i < l.length := (List.getElem?_eq_some_iff.mp h).1
theorem lookup_mem_ {α β : Type} [BEq α] [LawfulBEq α] {x : α} {y : β} : ∀ {l : List (α × β)}, l.lookup x = some y → (x, y) ∈ l
  | [], h => by simp at h
  | (a, b) :: r, h => by
    rw [List.lookup_cons] at h
    split at h
    · rename_i e
      have e : x = a := by simpa using e
      cases h
      rw [e]; exact List.mem_cons_self
    · exact List.mem_cons_of_mem _ (lookup_mem_ h)
section
variable {K : PySem.W.Frag} {G : Sc} {ct : CT} {h : Heap} {mg : Str → Option Value}
theorem clB_ok {c : Nat} {cl : Cl} (q : clB K ct G c cl = true) : ClF K ct G.ats c cl ∧ (∀ (f n : Nat) (fn : Fn), cl.at n = some (.prop f) → G.P.fns[f]? = some fn → (f, 1, [], []) ∈ G.pat ∧ fn.np = 1 ∧ fn.fresh = false) ∧
    (∀ f, cl.len = some f → ∃ fn, G.P.fns[f]? = some fn ∧ (f, 1, [], []) ∈ G.pat ∧ fn.np = 1 ∧ fn.fresh = false) ∧ (∀ f, cl.str = some f → ∃ fn, G.P.fns[f]? = some fn ∧ (f, 1, [], []) ∈ G.pat ∧ fn.np = 1 ∧ fn.fresh = false) ∧
    (∀ f, cl.eq = some f → ∃ fn, G.P.fns[f]? = some fn ∧ (f, 2, [], []) ∈ G.pat ∧ fn.np = 2 ∧ fn.fresh = false) ∧ (∀ f, cl.has = some f → ∃ fn, G.P.fns[f]? = some fn ∧ (f, 2, [], []) ∈ G.pat ∧ fn.np = 2 ∧ fn.fresh = false) ∧
    ∀ f, cl.tru = some f → ∃ fn, G.P.fns[f]? = some fn ∧ (f, 1, [], []) ∈ G.pat ∧ fn.np = 1 ∧ fn.fresh = false := by
  simp only [clB, Bool.and_eq_true, decide_eq_true_eq, List.all_eq_true] at q
  obtain ⟨q1, q2, q3, q4, q5, q6, ⟨q7, q8⟩, q9, q10, q11, q12, q13⟩ := q
  have sp := spB_ok q9
  have sq := spB_ok q10
  have sh := spB_ok q12
  have sb := spB_ok q13
  have len : ∀ f, cl.len = some f → ∃ fn, G.P.fns[f]? = some fn ∧ PySem.W.findIn K (.ref (ct.ad c)) "__len__" = some (some (.ref (ct.fa f))) ∧ PySem.W.typeIn K (.ref (ct.fa f)) = some (.type "function") ∧ (f, 1, [], []) ∈ G.pat ∧ fn.np = 1 ∧ fn.fresh = false := fun f hf => by
    rw [hf] at q8
    simp only at q8
    cases e : G.P.fns[f]? with
    | none => rw [e] at q8; cases q8
    | some fn =>
      rw [e] at q8
      simp only [Bool.and_eq_true, decide_eq_true_eq, Bool.not_eq_true'] at q8
      exact ⟨fn, rfl, q8⟩
  refine ⟨⟨clsB_ok q1, isfB_ok q2, q3, q4, q5, fun n i hn => ?_, fun n f hn => ?_, mkB_ok q6, fun f hf => ?_, fun f hf => ?_, fun f hf => ?_, fun f hf => ?_, fun f hf => ?_⟩, fun f n fn hn hfn => ?_, fun f hf => ?_, fun f hf => ?_, fun f hf => ?_, fun f hf => ?_, fun f hf => ?_⟩
  · have := q7 _ (lookup_mem_ hn)
    simp only at this
    split at this
    · rename_i f f' e1 e2
      simp only [Bool.and_eq_true, decide_eq_true_eq] at this
      obtain ⟨rfl, t2⟩ := this
      exact ⟨_, e1, e2, t2⟩
    · cases this
  · have := q7 _ (lookup_mem_ hn)
    simp only at this
    split at this
    · rename_i f' fn' e1 e2
      simp only [Bool.and_eq_true] at this
      exact ⟨_, _, e1, prB_ok this.1⟩
    · cases this
  · obtain ⟨fn, _, h1, h2, _⟩ := len f hf
    exact ⟨h1, h2⟩
  · obtain ⟨fn, _, h1, h2, _⟩ := sp f hf
    exact ⟨h1, h2⟩
  · obtain ⟨fn, _, h1, h2, _⟩ := sh f hf
    exact ⟨h1, h2⟩
  · obtain ⟨fn, _, h1, h2, _⟩ := sb f hf
    exact ⟨h1, h2⟩
  · obtain ⟨fn, _, h1, h2, _⟩ := sq f hf
    refine ⟨h1, h2, ?_⟩
    simp only [Bool.or_eq_true, decide_eq_true_eq] at q11
    rcases q11 with q | q
    · rw [hf] at q; cases q
    · exact q
  · have := q7 _ (lookup_mem_ hn)
    simp only at this
    split at this
    · rename_i f' fn' e1 e2
      rw [hfn] at e2; cases e2
      simp only [Bool.and_eq_true, decide_eq_true_eq, Bool.not_eq_true'] at this
      exact this.2
    · cases this
  · obtain ⟨fn, h1, _, _, h2⟩ := len f hf
    exact ⟨fn, h1, h2⟩
  · obtain ⟨fn, h1, _, _, h2⟩ := sp f hf
    exact ⟨fn, h1, h2⟩
  · obtain ⟨fn, h1, _, _, h2⟩ := sq f hf
    exact ⟨fn, h1, h2⟩
  · obtain ⟨fn, h1, _, _, h2⟩ := sh f hf
    exact ⟨fn, h1, h2⟩
  · obtain ⟨fn, h1, _, _, h2⟩ := sb f hf
    exact ⟨fn, h1, h2⟩
theorem conB_ok {x : Str} {g : Nat} (X : K.In h) (N : h.Ns mainGlobals mg) (q : conB K G x g = true) : ∃ v u d, G.P.consts[g]? = some d ∧ mg x = some u ∧ RelV v u ∧ (∀ U H, Dn K ct U H v d) ∧ ∀ ds, d ≠ .lst ds := by
  unfold conB at q
  split at q
  · rename_i j t i e1 e2
    have := of_decide_eq_true q
    subst this
    exact ⟨.int j, .int j t, .int j, e2, PySem.W.mg_of X N e1, ⟨t, rfl⟩, fun U H => .int j, fun _ e => nomatch e⟩
  · rename_i j t i e1 e2
    have := of_decide_eq_true q
    subst this
    exact ⟨.str j, .str j t, .str j, e2, PySem.W.mg_of X N e1, ⟨t, rfl⟩, fun U H => .str j, fun _ e => nomatch e⟩
  · cases q
theorem kit_rep {n : Nat} {d : D} (h1 : isAble d = true) (h2 : clsIn G.P d = true) (hn : n = G.P.cls.length) : ∃ r ∈ reps n, tyU ct d = tyU ct r ∧ ∀ t, tyD d t = tyD r t := by
  subst hn
  cases d with
  | none => exact ⟨.none, by simp [reps], rfl, fun t => rfl⟩
  | bool b => exact ⟨.bool true, by simp [reps], rfl, fun t => by cases t <;> rfl⟩
  | int i => exact ⟨.int 0, by simp [reps], rfl, fun t => by cases t <;> rfl⟩
  | str z => exact ⟨.str Str.empty, by simp [reps], rfl, fun t => by cases t <;> rfl⟩
  | lst xs => exact ⟨.lst [], by simp [reps], rfl, fun t => by cases t <;> rfl⟩
  | tup xs => exact ⟨.tup [], by simp [reps], rfl, fun t => by cases t <;> rfl⟩
  | sd l => exact ⟨.sd [], by simp [reps], rfl, fun t => by cases t <;> rfl⟩
  | obj c fs =>
    have h2 : (G.P.cls[c]?).isSome = true := h2
    have hc : c < G.P.cls.length := by
      cases e : G.P.cls[c]? with
      | none => rw [e] at h2; cases h2
      | some _ => exact fn_lt e
    exact ⟨.obj c [], by simp [reps, hc], rfl, fun t => by cases t <;> rfl⟩
  | _ => cases h1
theorem ty_rep {t : Ty} (h : tyIn G.P t = true) : t ∈ tys G.P.cls.length := by
  cases t with
  | cls c =>
    have h : (G.P.cls[c]?).isSome = true := h
    have hc : c < G.P.cls.length := by
      cases e : G.P.cls[c]? with
      | none => rw [e] at h; cases h
      | some _ => exact fn_lt e
    simp [tys, hc]
  | _ => simp [tys]
theorem hdB_ok (X : K.In h) (N : h.Ns mainGlobals mg) (hq : hdB K G ct = true) (pt : ∀ f n ks idx fn, (f, n, ks, idx) ∈ G.pat → G.P.fns[f]? = some fn → BindF K ct (fdOf K (ct.fa f)) (fn.names.take fn.np) fn.dfl n ks idx) : Hd K mg ct G fun f => fdOf K (ct.fa f) := by
  simp only [hdB, Bool.and_eq_true, decide_eq_true_eq, List.all_eq_true] at hq
  obtain ⟨⟨q0, qm⟩, q1, q2, q3, q4, q5, q6, q7⟩ := hq
  simp only [exB, Bool.and_eq_true, Bool.or_eq_true, decide_eq_true_eq, List.all_eq_true, List.isEmpty_iff] at q0
  obtain ⟨x1, x2, x3, x4⟩ := q0
  have cl : ∀ c cl, G.P.cls[c]? = some cl → clB K ct G c cl = true := fun c cl hc => by
    have := q6 c (List.mem_range.mpr (fn_lt hc))
    rw [hc] at this; exact this
  refine ⟨fun f fn hf => ?_, pt, ⟨fun x f hx => ?_, fun x c hx => ?_, fun x g hx => conB_ok X N (q4 _ hx), fun n hn => PySem.W.mg_none_of X N (q5 n hn), fun c cl' hc => (clB_ok (cl c cl' hc)).1, fun t d ht h1 h2 => ?_, fun c cl' f n fn hc hn hf => (clB_ok (cl c cl' hc)).2.1 f n fn hn hf, fun c cl' f hc hf => (clB_ok (cl c cl' hc)).2.2.1 f hf, fun c fs hc => excCB_ok (x1 _ (lookup_mem_ hc)).1, fun kk z l hz c fs hc => x2 _ hz _ (lookup_mem_ hc), fun n f c fs i hn hc hi => ?_, fun c1 c2 c3 l hz c fs hc => x3 _ hz _ (lookup_mem_ hc), fun c hc => ?_, fun c cl' f hc hf => (clB_ok (cl c cl' hc)).2.2.2.1 f hf, fun c cl' f hc hf => (clB_ok (cl c cl' hc)).2.2.2.2.1 f hf, fun c cl' f hc hf => (clB_ok (cl c cl' hc)).2.2.2.2.2.1 f hf, fun c cl' f hc hf => (clB_ok (cl c cl' hc)).2.2.2.2.2.2 f hf, fun c m f hz => cmB_ok (qm _ hz)⟩⟩
  · have := q1 f (List.mem_range.mpr (fn_lt hf))
    rw [hf] at this
    exact fnB_ok this
  · obtain ⟨a, b⟩ := q2 _ hx
    exact ⟨PySem.W.mg_of X N a, b⟩
  · exact PySem.W.mg_of X N (q3 _ hx)
  · obtain ⟨r, m, e1, e2⟩ := kit_rep (ct := ct) h1 h2 rfl
    rw [e1, e2 t]
    exact q7 r m t (ty_rep ht)
  · obtain ⟨_, y2, y3⟩ := x1 _ (lookup_mem_ hc)
    have hm : n ∈ fs := by
      obtain ⟨h1, h2, _⟩ := List.idxOf?_eq_some_iff.mp hi
      have := List.getElem_mem h1
      rw [h2] at this; exact this
    have y4 := y3 n hm
    rw [hn, hi] at y4
    simp only [Bool.and_eq_true, decide_eq_true_eq] at y4
    rcases y2 with y2 | y2
    · have y2 : fs = [] := y2
      subst y2
      cases hm
    · exact ⟨y4.1, y2.1, y4.2, xfB_ok y2.2⟩
  · rcases x4 c hc with ⟨y1, y2⟩ | ⟨y1, y2⟩
    · obtain ⟨fI, y⟩ := extB_ok y1
      exact ⟨fI, true, y, y2⟩
    · obtain ⟨fI, y⟩ := extB_ok y1
      exact ⟨fI, false, y, y2⟩
end
end Sb
set_option linter.all false
set_option maxRecDepth 20000
set_option maxHeartbeats 4000000
set_option autoImplicit false
/-! B2: a law's call, over defs that keep their promise where no guard stands. -/
namespace Sb
open PySem PySem.Spec PyProof.Rows L2
section
variable {P : Program} {w : World} {K : PySem.W.Frag} {mg mb : Str → Option Value} {k : Nat} {fa a : Addr} {fd : FuncData} {x : Str} {sp : Sp} {s₁ : Shared} {vs : List Value} {ns : List Int}
abbrev RightEnd (s₁ : Shared) (r : Except Value Flow) (s' : Shared) : Prop := r = .ok (.ret (.bool true)) ∧ OldK s₁.heap s'.heap ∧ s'.os = s₁.os ∧ AllBare s'.gens
/-- what may be tracked at the start: the script, the tables of code objects -/
def OnlyT (cs : List (Addr × Addr)) (H : Hp) : Prop := ∀ b, H b = none ∨ b ∈ cs.map (·.2) ∨ ∃ o xs, H b = some (.frz o (.lst xs))
/-- the tables at the start -/
structure TabH (h : Heap) (K : PySem.W.Frag) (cs : List (Addr × Addr)) : Prop where
  mt : ∀ b, b ∈ cs.map (·.2) → h.get? b = some { cls := .none, data := .fields #[] }
  nk : ∀ b, b ∈ cs.map (·.2) → K.lookup b = none
  hd : ∀ p, p ∈ cs → PySem.W.CodeHd h p.1 p.2
theorem mem_cs {cs : List (Addr × Addr)} {p : Addr × Addr} (h : p ∈ cs) : p.2 ∈ cs.map (·.2) := List.mem_map_of_mem h
/-- from one heap in which nothing but the script and the tables may be tracked -/
theorem callG_core {cs : List (Addr × Addr)} {H : Hp} (KX : K.In s₁.heap) (gns : s₁.heap.Ns mainGlobals mg) (bns : s₁.heap.Ns builtinsNs mb) (bbt : ∀ x : Str, x ≠ "__name__" → mb x = bootBuiltins x) (nol : s₁.heap.NoLimit) (gz : s₁.gens = #[])
    (TT : TabH s₁.heap K cs) (bm : ∃ (bm : Addr) (ob : Obj), mg "__builtins__" = some (.ref bm) ∧ bm ≠ builtinsNs ∧ s₁.heap.get? bm = some ob ∧ ob.cls = .type "module" ∧ ob.dict = some builtinsNs ∧ ob.data = .plain)
    (la : s₁.heap.get? a = some { cls := .type "list", data := .seq vs.toArray }) (rm : RoomG k callerA)
    (FF : ∀ base : Heap, K.In base → base.Ns mainGlobals mg → (∀ p, p ∈ cs → LamX.TabB base mg p.1 p.2) → FnG P w K mg base k fa fd [x] sp) (bnd : ∀ (s : Shared) (u : Value), BindsTo s fd ⟨[u], []⟩ [(x, u)])
    (sq : sp [.ref a] H (fun v _ => v = .bl true) fun _ _ _ => False) (oH : OnlyT cs H) (tH : ∀ b, b ∈ cs.map (·.2) → H b = some (.tbl #[])) (okH : HOk P w H s₁.heap) (aH : ∀ b, H b ≠ none → b = a ∨ b ∈ cs.map (·.2)) (kH : H a ≠ none → K.lookup a = none) :
    codeAny (model P w) callerA (.call (.ref fa) ⟨[.ref a], []⟩) (RightEnd s₁) s₁ := by
  have hid : ∀ {b : Addr} {o : Obj}, s₁.heap.get? b = some o → H b = none → (hidT s₁.heap H).get? b = some o := fun e n => hidT_get e n
  have noS : ∀ {b : Addr} {o : Obj}, s₁.heap.get? b = some o → (∀ ws n, o.data ≠ .seq ws n) → o.data ≠ .fields #[] → H b = none := by
    intro b o e d1 d2
    cases q : H b with
    | none => rfl
    | some u =>
      rcases aH b (by simp [q]) with rfl | z
      · rw [la] at e; cases e; exact absurd rfl (d1 _ _)
      · rw [TT.mt b z] at e; cases e; exact absurd rfl d2
  have noD : ∀ {b : Addr} {o : Obj} {es : Array DictEntry} {ep : Nat}, s₁.heap.get? b = some o → o.data = .dict es ep → H b = none := fun e d => noS e (by rw [d]; simp) (by rw [d]; simp)
  have nsH : ∀ {b : Addr} {m : Str → Option Value}, s₁.heap.Ns b m → (hidT s₁.heap H).Ns b m := by
    intro b m ⟨o, es, ep, e, d, r⟩
    exact ⟨o, es, ep, hid e (noD e d), d, r⟩
  have kin : K.In (hidT s₁.heap H) := by
    intro b o e
    refine hid (KX b o e) ?_
    cases q : H b with
    | none => rfl
    | some u =>
      rcases aH b (by simp [q]) with rfl | z
      · rw [kH (by simp [q])] at e; cases e
      · rw [TT.nk b z] at e; cases e
  have tabs : ∀ p, p ∈ cs → LamX.TabB (hidT s₁.heap H) mg p.1 p.2 := by
    intro p hp
    have z := TT.mt _ (mem_cs hp)
    obtain ⟨o1, es, ep, g1, g2, g3⟩ := id gns
    constructor
    · obtain ⟨o, us, file, tf, flags, tg, inF, text, tt, e1, r1, r2, r3, rest⟩ := TT.hd p hp
      refine ⟨o, us, file, tf, flags, tg, inF, text, tt, hid e1 (noS e1 ?_ ?_), r1, r2, r3, rest⟩
      · rw [r2]; simp
      · rw [r2]
        intro y
        cases y
        simp at r3
    · obtain ⟨m, ob, b1, b2, b3, b4, b5, b6⟩ := bm
      have e1 : m ≠ mainGlobals := by
        rintro rfl
        rw [b3] at g1; cases g1; rw [b6] at g2; cases g2
      have e2 : m ≠ p.2 := by
        rintro rfl
        rw [b3] at z; cases z; cases b6
      exact ⟨m, ob, b1, b2, e1, e2, hid b3 (noS b3 (by rw [b6]; simp) (by rw [b6]; simp)), b4, b5, b6⟩
    · intro y
      rw [y, z] at g1; cases g1; cases g2
  have md : Mod K mg (hidT s₁.heap H) := by
    obtain ⟨mc, h1, h2⟩ := nol
    exact ⟨kin, nsH gns, ⟨mb, nsH bns, bbt⟩, ⟨mc, nsH h1, h2⟩⟩
  have env : Env0 P w K mg (hidT s₁.heap H) callerA [] s₁ H :=
    ⟨rfl, md, fun b o e => of_hidT e, Nat.le_of_eq (hidT_size _ _), trivial, fun b hb => (List.not_mem_nil hb).elim, okH, .of_eq gz⟩
  refine codeAny_mono (FF _ kin (nsH gns) tabs callerA [] s₁ H ⟨[.ref a], []⟩ [.ref a] [.ref a] _ _ rm env (bnd s₁ (.ref a)) (.cons rfl .nil) sq) ?_
  rintro (e | fl) s' h
  · obtain ⟨_, _, _, _, _, _, _, _, _, z⟩ := h
    first | exact z.elim | exact absurd z (by simp)
  · cases fl with
    | next => exact False.elim h
    | brk => exact False.elim h
    | cont => exact False.elim h
    | ret u =>
      obtain ⟨v, H', os, bare, un, ok2, r2, q⟩ := h
      obtain rfl : v = .bl true := q
      obtain rfl : u = Value.bool true := r2
      have same : ∀ b o, b ∉ cs.map (·.2) → s₁.heap.get? b = some o → s'.heap.get? b = some o := by
        intro b o nb e
        cases q : H b with
        | none => exact un.keep b o e q (fun z => (List.not_mem_nil z).elim) (by simp)
        | some u =>
          rcases oH b with z | z | ⟨ob, xs, z⟩
          · rw [q] at z; cases z
          · exact absurd z nb
          · obtain ⟨e1, _⟩ := okH b _ z
            obtain ⟨e2, _⟩ := ok2 b _ (un.frzs b ob _ z)
            rw [e] at e1
            cases e1
            exact e2
      have more : ∀ b, b ∈ cs.map (·.2) → ∃ xs : Array Value, s'.heap.get? b = some { cls := .none, data := .fields xs } := fun b hb => (un.tbls b #[] (tH b hb)).elim fun m z => ⟨_, ok2 b _ z⟩
      refine ⟨rfl, ⟨fun b o e => ?_, fun b o e => ?_⟩, os, bare⟩
      · by_cases hb : b ∈ cs.map (·.2)
        · obtain ⟨xs, hx⟩ := more b hb
          obtain ⟨p, hp, rfl⟩ := List.mem_map.mp hb
          have z := TT.mt _ hb
          rw [z] at e; cases e
          exact .inr (.inl ⟨((TT.hd p hp).tab z).isCodeTable, rfl, #[], xs, rfl, by rw [hx, Array.empty_append]⟩)
        · exact .inl (same b o hb e)
      · by_cases hb : b ∈ cs.map (·.2)
        · exact (more b hb).elim fun xs hx => ⟨_, hx⟩
        · exact ⟨o, same b o hb e⟩
end
end Sb
set_option linter.all false
set_option maxRecDepth 20000
set_option maxHeartbeats 4000000
set_option autoImplicit false
/-! B3: how arguments are bound; the law's end. -/
namespace Sb
open PySem PySem.Spec PyProof.Rows L2
def dV : D → V
  | .int i => .int i
  | .bool b => .bl b
  | .str x => .str x
  | _ => .non
def dFlat : D → Bool
  | .int _ => true | .bool _ => true | .str _ => true | .none => true | _ => false
theorem dV_dn {K : PySem.W.Frag} {ct : CT} {U : Um} {H : Hp} {d : D} (h : dFlat d = true) : Dn K ct U H (dV d) d := by
  cases d with
  | int i => exact .int i
  | bool b => exact .bl b
  | str x => exact .str x
  | none => exact .non
  | _ => cases h
theorem dV_dnL {K : PySem.W.Frag} {ct : CT} {U : Um} {H : Hp} : ∀ {ds : List D}, ds.all dFlat = true → DnL K ct U H (ds.map dV) ds
  | [], _ => .nil
  | d :: r, h => by
    rw [List.all_cons, Bool.and_eq_true] at h
    exact .cons (dV_dn h.1) (dV_dnL h.2)
/-- how a call's values come to the parameters, of any function object with these names -/
def PatS (fn : Fn) (n : Nat) (ks : List Str) (idx : List Nat) : Prop :=
  ∀ (fd : FuncData) (T : Addr) (us ws its : List Value), us.length = n → ws.length = ks.length → its.length = fn.dfl.length → ∃ full, bindK (fn.names.take fn.np).length its (us ++ ws) idx = some full ∧
    (match fn.dfl with
    | [] => bindArgs { fd with params := stdArgs (fn.names.take fn.np), defaults := .none } ⟨us, ks.zip ws⟩ = pure ((fn.names.take fn.np).zip full)
    | _ => ∃ k, bindArgs { fd with params := stdArgs (fn.names.take fn.np), defaults := .ref T } ⟨us, ks.zip ws⟩ = seqItems? (.ref T) >>= k ∧ k (some its.toArray) = pure ((fn.names.take fn.np).zip full))
theorem bindF_of {K : PySem.W.Frag} {ct : CT} {fd : FuncData} {fn : Fn} {n : Nat} {ks : List Str} {idx : List Nat} (hp : Par fd (fn.names.take fn.np)) (hd : DflV K fd.defaults (fn.dfl.map dV)) (hf : fn.dfl.all dFlat = true) (h : PatS fn n ks idx) :
    BindF K ct fd (fn.names.take fn.np) fn.dfl n ks idx := by
  rcases hd with ⟨e1, e2⟩ | ⟨e1, T, o, its, m, e2, lT, oT, rT⟩
  · have e1 : fn.dfl = [] := by simpa using e1
    refine ⟨[], [], .nil, fun U H => by rw [e1]; exact .nil, fun s us ws X h1 h2 => ?_⟩
    obtain ⟨full, b1, b2⟩ := h fd 0 us ws [] h1 h2 (by rw [e1]; rfl)
    rw [e1] at b2
    refine ⟨full, b1, BindsTo.of_eq ?_⟩
    rw [bindArgs_std hp, ← b2]
    congr 1
    cases fd
    simp only at e2
    subst e2
    rfl
  · have hl : its.length = fn.dfl.length := by
      have := rT.length
      rw [List.length_map] at this
      exact this.symm
    refine ⟨fn.dfl.map dV, its, rT, fun U H => dV_dnL hf, fun s us ws X h1 h2 => ?_⟩
    obtain ⟨full, b1, b2⟩ := h fd T us ws its h1 h2 hl
    refine ⟨full, b1, BindsTo.of_looks fun M => ?_⟩
    split at b2
    · rename_i e
      exact absurd (by rw [e]; rfl) e1
    · obtain ⟨k, c1, c2⟩ := b2
      have e3 : { fd with params := stdArgs (fn.names.take fn.np), defaults := .ref T } = { fd with params := stdArgs (fn.names.take fn.np) } := by
        cases fd
        simp only at e2
        subst e2
        rfl
      rw [bindArgs_std hp, ← e3, c1]
      exact looks_items X lT oT (.of_pure c2)
/-- what the head is asked of parameters -/
def bdB (K : PySem.W.Frag) (G : Sc) (ct : CT) : Bool := (List.range G.P.fns.length).all fun f => match G.P.fns[f]? with
  | some fn => parB (fdOf K (ct.fa f)) (fn.names.take fn.np) && (He.dflB K (fdOf K (ct.fa f)).defaults (fn.dfl.map dV) && fn.dfl.all dFlat)
  | none => false
def AllL {α : Type} (P : α → Prop) : List α → Prop
  | [] => True
  | x :: r => P x ∧ AllL P r
theorem AllL.mem {α : Type} {P : α → Prop} : ∀ {l : List α}, AllL P l → ∀ x ∈ l, P x
  | [], _, _, h => by cases h
  | y :: r, ⟨h1, h2⟩, x, h => by
    rcases List.mem_cons.mp h with rfl | h
    · exact h1
    · exact h2.mem x h
def PatT (P : Prog) (q : Nat × Nat × List Str × List Nat) : Prop := ∀ fn, P.fns[q.1]? = some fn → PatS fn q.2.1 q.2.2.1 q.2.2.2
theorem bd_ok {K : PySem.W.Frag} {G : Sc} {ct : CT} (h : bdB K G ct = true) (hp : AllL (PatT G.P) G.pat) : ∀ f n ks idx fn, (f, n, ks, idx) ∈ G.pat → G.P.fns[f]? = some fn → BindF K ct (fdOf K (ct.fa f)) (fn.names.take fn.np) fn.dfl n ks idx := by
  intro f n ks idx fn hm hf
  simp only [bdB, List.all_eq_true] at h
  have q := h f (List.mem_range.mpr (fn_lt hf))
  rw [hf] at q
  simp only [Bool.and_eq_true] at q
  exact bindF_of (parB_ok q.1) (He.dflB_ok q.2.1) q.2.2 (hp.mem _ hm fn hf)
/-! ### the end -/
section
variable {P : Program} {w : World} {K : PySem.W.Frag} {mg mb : Str → Option Value} {k : Nat} {fa a : Addr} {fd : FuncData} {x : Str} {sp : Sp} {s₁ : Shared} {vs : List Value} {ns : List Int}
theorem callG {cs : List (Addr × Addr)} (KX : K.In s₁.heap) (gns : s₁.heap.Ns mainGlobals mg) (bns : s₁.heap.Ns builtinsNs mb) (bbt : ∀ x : Str, x ≠ "__name__" → mb x = bootBuiltins x) (nol : s₁.heap.NoLimit) (gz : s₁.gens = #[])
    (TT : TabH s₁.heap K cs) (bm : ∃ (bm : Addr) (ob : Obj), mg "__builtins__" = some (.ref bm) ∧ bm ≠ builtinsNs ∧ s₁.heap.get? bm = some ob ∧ ob.cls = .type "module" ∧ ob.dict = some builtinsNs ∧ ob.data = .plain)
    (la : s₁.heap.get? a = some { cls := .type "list", data := .seq vs.toArray }) (hin : IntsAre vs ns) (hl : ns.length ≤ sizeLine) (rm : RoomG k callerA)
    (FF : ∀ base : Heap, K.In base → base.Ns mainGlobals mg → (∀ p, p ∈ cs → LamX.TabB base mg p.1 p.2) → FnG P w K mg base k fa fd [x] sp) (bnd : ∀ (s : Shared) (u : Value), BindsTo s fd ⟨[u], []⟩ [(x, u)])
    (sq : ∀ H : Hp, (∀ b, b ∈ cs.map (·.2) → H b = some (.tbl #[])) → SqL K H a (ns.map V.int) → sp [.ref a] H (fun v _ => v = .bl true) fun _ _ _ => False) :
    codeAny (model P w) callerA (.call (.ref fa) ⟨[.ref a], []⟩) (RightEnd s₁) s₁ := by
  have rv := vals_ints hin
  have hlen := hin.length
  have na : a ∉ cs.map (·.2) := fun z => by
    have q := TT.mt a z
    rw [la] at q; cases q
  cases hk : K.lookup a with
  | some o =>
    have e := KX a o hk
    rw [la] at e
    cases e
    let H : Hp := fun b => if b ∈ cs.map (·.2) then some (HO.tbl #[]) else none
    have tH : ∀ b, b ∈ cs.map (·.2) → H b = some (.tbl #[]) := fun b hb => if_pos hb
    have un : ∀ b, b ∉ cs.map (·.2) → H b = none := fun b hb => if_neg hb
    have sqa : SqL K H a (ns.map V.int) := .inr ⟨_, vs.toArray, _, hk, rfl, rfl, rfl, by rw [List.size_toArray, hlen]; exact hl, by simpa using rv⟩
    refine callG_core (H := H) KX gns bns bbt nol gz TT bm la rm FF bnd (sq _ tH sqa) (fun b => ?_) tH (fun b u z => ?_) (fun b z => ?_) fun z => absurd (un a na) z
    · by_cases hb : b ∈ cs.map (·.2)
      · exact .inr (.inl hb)
      · exact .inl (un b hb)
    · by_cases hb : b ∈ cs.map (·.2)
      · rw [tH b hb] at z; cases z; exact TT.mt b hb
      · rw [un b hb] at z; cases z
    · by_cases hb : b ∈ cs.map (·.2)
      · exact .inr hb
      · exact absurd (un b hb) z
  | none =>
    let H : Hp := fun b => if b = a then some (.frz { cls := .type "list", data := .seq vs.toArray } (.lst (ns.map V.int))) else if b ∈ cs.map (·.2) then some (.tbl #[]) else none
    have hA : H a = some (.frz { cls := .type "list", data := .seq vs.toArray } (.lst (ns.map V.int))) := if_pos rfl
    have tH : ∀ b, b ∈ cs.map (·.2) → H b = some (.tbl #[]) := fun b hb => (if_neg (fun z => na (by rw [← z]; exact hb))).trans (if_pos hb)
    have un : ∀ b, b ≠ a → b ∉ cs.map (·.2) → H b = none := fun b h1 h2 => (if_neg h1).trans (if_neg h2)
    refine callG_core (H := H) KX gns bns bbt nol gz TT bm la rm FF bnd (sq _ tH (.inl (.inr ⟨{ cls := .type "list", data := .seq vs.toArray }, hA⟩))) (fun b => ?_) tH (fun b u z => ?_) (fun b z => ?_) fun _ => hk
    · by_cases h1 : b = a
      · exact .inr (.inr ⟨_, _, by rw [h1]; exact hA⟩)
      · by_cases h2 : b ∈ cs.map (·.2)
        · exact .inr (.inl h2)
        · exact .inl (un b h1 h2)
    · by_cases h1 : b = a
      · rw [h1, hA] at z
        cases z
        subst h1
        exact ⟨la, by rw [List.length_map]; exact hl, vs, _, rv, la⟩
      · by_cases h2 : b ∈ cs.map (·.2)
        · rw [tH b h2] at z; cases z; exact TT.mt b h2
        · rw [un b h1 h2] at z; cases z
    · by_cases h1 : b = a
      · exact .inl h1
      · by_cases h2 : b ∈ cs.map (·.2)
        · exact .inr h2
        · exact absurd (un b h1 h2) z
end
theorem walk_G {l : PySem.W.OpenLaw} {n k : Nat} {q : Program} {loose : List Str} {XP : (Str → Option Value) → Heap → Prop} {YP : World → Heap → Prop} {d : DefRec} {x : Str}
    (hn : l.most = some n) (hn2 : n ≤ sizeLine) (hdf : d.params.defaults = []) (rm : RoomG k callerA)
    (F : ∀ (w : World) (mg : Str → Option Value) (fa : Addr) (h : Heap), YP w h → h.Ns mainGlobals mg → mg d.name = some (.ref fa) →
      ∃ (K : PySem.W.Frag) (fd : FuncData) (cs : List (Addr × Addr)) (sp : Sp), K.In h ∧ TabH h K cs ∧ (∀ (s : Shared) (u : Value), BindsTo s fd ⟨[u], []⟩ [(x, u)]) ∧
        (∀ (H : Hp) (a : Addr) (ns : List Int), ns.length ≤ n → (∀ b, b ∈ cs.map (·.2) → H b = some (.tbl #[])) → SqL K H a (ns.map V.int) → sp [.ref a] H (fun v _ => v = .bl true) fun _ _ _ => False) ∧
        ∀ base : Heap, K.In base → base.Ns mainGlobals mg → (∀ p, p ∈ cs → LamX.TabB base mg p.1 p.2) → FnG l.prog w K mg base k fa fd [x] sp) :
    PySem.W.WalkO q loose XP YP l.row.toRowW d [] (fun f vs => PySem.call f vs) := by
  refine Att.attach_call hn hdf fun w s₀ s₁ mg mb fa o pm cd doc a vs ns G Y ho hd hcd hmg hobj hints hlen hg => ?_
  obtain ⟨K, fd, cs, sp, KX, TT, hb, hsp, hF⟩ := F w mg fa _ Y G.T.g hmg
  exact callG KX G.T.g G.T.b G.T.builtins G.T.nolimit hg TT G.T.bmain hobj hints (Nat.le_trans hlen hn2) rm hF hb fun H hT hS => hsp H a ns hlen hT hS
end Sb
set_option linter.all false
set_option maxRecDepth 20000
set_option maxHeartbeats 4000000
set_option autoImplicit false
/-! B4: from the meaning of the law's def to what the head's end asks. -/
namespace Sb
open PySem PySem.Spec PyProof.Rows L2
theorem TabH.nil {h : Heap} {K : PySem.W.Frag} : TabH h K [] := ⟨fun _ z => (by simp at z), fun _ z => (by simp at z), fun _ z => (by simp at z)⟩
/-- the tables that the head tells of -/
theorem TabH.of {fs : List He.Fa} {dn : List He.DefD} {ts : List He.Tab} {tf : List He.Defn} {ex : PySem.W.Frag → Bool} {w : World} {h : Heap} {K : PySem.W.Frag} (c : He.SaysX fs dn ts tf ex w h K) (KX : K.In h) : TabH h K (tf.map (He.cT K)) := by
  have back : ∀ {b : Addr}, b ∈ (tf.map (He.cT K)).map (·.2) → ∃ p, p ∈ tf ∧ (He.cT K p).2 = b := fun hb => by
    obtain ⟨q, hq, rfl⟩ := List.mem_map.mp hb
    obtain ⟨p, hp, rfl⟩ := List.mem_map.mp hq
    exact ⟨p, hp, rfl⟩
  refine ⟨fun b hb => ?_, fun b hb => ?_, fun q hq => ?_⟩
  · obtain ⟨p, hp, rfl⟩ := back hb
    exact c.empty p hp
  · obtain ⟨p, hp, rfl⟩ := back hb
    exact c.out p hp
  · obtain ⟨p, hp, rfl⟩ := List.mem_map.mp hq
    exact PySem.W.codeHd_of_K KX (c.hd p hp)
/-- the program's places, with the tables of the defs that make lambdas -/
def dnQual (p : He.Defn) : Str := (match p.2 with
  | none => p.1
  | some m => p.1 ++ "." ++ m) ++ ".<locals>." ++ "<lambda>"
def ctL (K : PySem.W.Frag) (wh : List Wh) (cn : List Str) (fl : List (List Str)) (tf : List He.Defn) : CT := { ctOf K wh cn fl with tb := tf.map fun p => ((He.cT K p).2, dnQual p) }
def lamB (K : PySem.W.Frag) (G : Sc) (ct : CT) (tf : List He.Defn) : Bool := (List.range G.P.fns.length).all fun f => match G.P.fns[f]? with
  | some fn => !fn.lam || tf.any fun p => decide ((fdOf K (ct.fa f)).code = .ref (He.cT K p).1) && (decide (((He.cT K p).2, (fdOf K (ct.fa f)).qualname ++ ".<locals>." ++ "<lambda>") ∈ ct.tb) &&
      ct.tb.all fun q => !decide (q.1 = (He.cT K p).2) || decide (q.2 = (fdOf K (ct.fa f)).qualname ++ ".<locals>." ++ "<lambda>"))
  | none => true
theorem lamB_ok {K : PySem.W.Frag} {G : Sc} {ct : CT} {tf : List He.Defn} {mg : Str → Option Value} (h : lamB K G ct tf = true) : ∀ base : Heap, (∀ p, p ∈ tf.map (He.cT K) → LamX.TabB base mg p.1 p.2) → ∀ f fn, G.P.fns[f]? = some fn → fn.lam = true → LamD base mg ct (fdOf K (ct.fa f)) := by
  intro base hB f fn hf hl
  have q := List.all_eq_true.mp h f (List.mem_range.mpr (fn_lt hf))
  rw [hf] at q
  simp only [hl, Bool.not_true, Bool.false_or, List.any_eq_true, Bool.and_eq_true, decide_eq_true_eq, List.all_eq_true, Bool.or_eq_true, Bool.not_eq_true', decide_eq_false_iff_not] at q
  obtain ⟨p, hp, h1, h2, h3⟩ := q
  refine ⟨_, _, h1, hB _ (List.mem_map_of_mem hp), h2, fun z hz => ?_⟩
  rcases h3 _ hz with y | y
  · exact absurd rfl y
  · exact y
theorem noLam {G : Sc} (h : G.P.fns.all (fun fn => !fn.lam) = true) {X : Heap → Prop} {Y : Heap → Nat → Prop} : ∀ base : Heap, X base → ∀ f fn, G.P.fns[f]? = some fn → fn.lam = true → Y base f := fun _ _ f fn hf hl => by
  have q := List.all_eq_true.mp h fn (List.mem_of_getElem? hf)
  rw [hl] at q; cases q
theorem law_G {G : Sc} {i N n : Nat} {fnl : Fn} {x : Str} {ct : PySem.W.Frag → CT} {l : PySem.W.OpenLaw} {K : PySem.W.Frag} {w : World} {mg : Str → Option Value} {h : Heap} {fa : Addr}
    (hf : G.P.fns[i]? = some fnl) (hps : fnl.names.take fnl.np = [x]) (hfr : fnl.fresh = false) (hdf : fnl.dfl = []) (hnm : (fnl.names.take fnl.np).length = fnl.np) (pats : AllL (PatT G.P) G.pat) (plaw : PatS fnl 1 [] [])
    (sem : ∀ (ns : List Int), ns.length ≤ n → ∀ (S : Store) (Q E : QD), (∀ S', Q (.bool true) S') → Fs G.P N [] i [.scr ns] S Q E)
    (KX : K.In h) (ns : h.Ns mainGlobals mg) (hq : hdB K G (ct K) = true) (hb : bdB K G (ct K) = true) (hfa : fa = (ct K).fa i) (cs : List (Addr × Addr)) (TT : TabH h K cs) (hL : ∀ base : Heap, (∀ p, p ∈ cs → LamX.TabB base mg p.1 p.2) → ∀ f fn, G.P.fns[f]? = some fn → fn.lam = true → LamD base mg (ct K) (fdOf K ((ct K).fa f))) (hT : (ct K).tb.map (·.1) = cs.map (·.2)) :
    ∃ (K : PySem.W.Frag) (fd : FuncData) (cs : List (Addr × Addr)) (sp : Sp), K.In h ∧ TabH h K cs ∧ (∀ (s : Shared) (u : Value), BindsTo s fd ⟨[u], []⟩ [(x, u)]) ∧
        (∀ (H : Hp) (a : Addr) (ns : List Int), ns.length ≤ n → (∀ b, b ∈ cs.map (·.2) → H b = some (.tbl #[])) → SqL K H a (ns.map V.int) → sp [.ref a] H (fun v _ => v = .bl true) fun _ _ _ => False) ∧
        ∀ base : Heap, K.In base → base.Ns mainGlobals mg → (∀ p, p ∈ cs → LamX.TabB base mg p.1 p.2) → FnG l.prog w K mg base (5 * N) fa fd [x] sp := by
  have hd : ∀ h c, Hd K mg ((ct K).w h c) G fun f => fdOf K ((ct K).fa f) := fun hx c => hdB_ok (ct := (ct K).w hx c) KX ns (hdB_w.trans hq) (bd_ok (ct := (ct K).w hx c) hb pats)
  refine ⟨K, fdOf K ((ct K).fa i), cs, FSp K ((ct K).w none none) fnl.fresh fun args S Q E => Fs G.P N [] i args S Q E, KX, TT, fun s u => ?_, fun H a ns hl tH hS => ?_, fun base _ _ hB => ?_⟩
  · simp only [bdB, List.all_eq_true] at hb
    have q := hb i (List.mem_range.mpr (fn_lt hf))
    rw [hf] at q
    simp only [Bool.and_eq_true] at q
    have hp := parB_ok q.1
    have hd0 : (fdOf K ((ct K).fa i)).defaults = .none := by
      have := He.dflB_ok q.2.1
      rw [hdf] at this
      rcases this with ⟨_, e⟩ | ⟨e, _⟩
      · exact e
      · exact absurd rfl e
    obtain ⟨full, b1, b2⟩ := plaw (fdOf K ((ct K).fa i)) 0 [u] [] [] rfl rfl (by rw [hdf]; rfl)
    rw [hdf] at b2
    have b1' : bindK (fnl.names.take fnl.np).length [] [u] [] = some full := b1
    rw [hps] at b1' b2
    have e2 : full = [u] := by
      have : bindK 1 [] [u] [] = some [u] := rfl
      rw [show ([x] : List Str).length = 1 from rfl, this] at b1'
      cases b1'; rfl
    subst e2
    have b2 : bindArgs { fdOf K ((ct K).fa i) with params := stdArgs [x], defaults := .none } ⟨[u], ([] : List Str).zip []⟩ = pure ([x].zip [u]) := b2
    refine BindsTo.of_eq ?_
    rw [bindArgs_std hp, hps]
    have e3 : { fdOf K ((ct K).fa i) with params := stdArgs [x], defaults := .none } = { fdOf K ((ct K).fa i) with params := stdArgs [x] } := by
      rw [← hd0]
    rw [e3] at b2
    exact b2
  · have kU : ∀ b, (if b ∈ cs.map (·.2) then Kd.ce else Kd.sh) = .ce ↔ b ∈ cs.map (·.2) := fun b => by
      by_cases hb : b ∈ cs.map (·.2)
      · simp [hb]
      · simp only [if_neg hb]; exact ⟨fun z => (by cases z), fun z => absurd z hb⟩
    refine ⟨fun b => if b ∈ cs.map (·.2) then .ce else .sh, fun _ => none, [.scr ns], fun r _ => r = .bool true, fun _ _ => False, ⟨fun b => (kU b).trans (by rw [CT.tab, show ((ct K).w none none).tb = (ct K).tb from rfl, hT]; simp), fun _ _ e => (nomatch e), fun b hb => ?_, fun p hp => ?_⟩, .cons (.of (.scr ?_)) .nil, sem ns hl _ _ _ fun _ => rfl, fun v d U1 S1 H1 _ _ md q => ?_, fun _ _ _ _ _ _ _ _ _ z => z⟩
    · by_cases h2 : b ∈ cs.map (·.2)
      · rw [tH b h2]; simp
      · exact absurd (if_neg h2) hb
    · exact ⟨#[], tH _ (by rw [← hT]; exact List.mem_map_of_mem hp), trivial, fun pos cv z => by simp [codeAmong] at z⟩
    · rcases hS with z | z
      · refine .inl ⟨if_neg fun y => ?_, z⟩
        have q := tH a y
        rcases z with z | ⟨o, z⟩ <;> (rw [q] at z; cases z)
      · exact .inr z
    · subst q
      rw [hfr] at md
      have md : Dn K ((ct K).w none none) U1 H1 v (.bool true) := md
      cases md
      rfl
  · have F := ((fa_all (P := l.prog) (w := w) (base := base) hd (hL base hB) N).fa [] none).fn i fnl hf
    rw [hps] at F
    rw [hfa]
    exact F.2
end Sb
set_option linter.all false
set_option autoImplicit false
/-! BH: the head's facts, with the table of the interpreter's own statics among them (a class's attributes are read there). -/
namespace Sb
open PySem PySem.Spec PyProof.Rows L2
def asY (g : Addr → Option Obj) (n : Nat) : List Addr := He.asD g n ++ [cStatics]
def obsY (n : Nat) (fa : List He.Fa) (fn : List He.DefD) (ts : List He.Tab) (tf : List He.Defn) (ex : PySem.W.Frag → Bool) (g : Addr → Option Obj) : He.AlX := (He.obsT fa fn ts (He.frT g (asY g n)), ex (He.frT g (asY g n)) && He.tabsB g tf (He.frT g (asY g n)))
theorem saysY_of {n : Nat} {fa : List He.Fa} {fn : List He.DefD} {ts : List He.Tab} {tf : List He.Defn} {ex : PySem.W.Frag → Bool} {w : World} {h : Heap} (e : obsY n fa fn ts tf ex h.get? = He.valX fn ts w) : He.SaysX fa fn ts tf ex w h (He.frT h.get? (asY h.get? n)) := by
  have e1 : He.obsT fa fn ts (He.frT h.get? (asY h.get? n)) = He.valT fn ts w := congrArg (fun z : He.AlX => z.1) e
  have e2 : (ex (He.frT h.get? (asY h.get? n)) && He.tabsB h.get? tf (He.frT h.get? (asY h.get? n))) = true := congrArg (fun z : He.AlX => z.2) e
  rw [Bool.and_eq_true] at e2
  obtain ⟨h1, h2⟩ := e2
  have key : ∀ p ∈ tf, PySem.W.codeHdIn (He.frT h.get? (asY h.get? n)) (He.cT (He.frT h.get? (asY h.get? n)) p).1 (He.cT (He.frT h.get? (asY h.get? n)) p).2 = true ∧ ∃ o, h.get? (He.cT (He.frT h.get? (asY h.get? n)) p).2 = some o ∧ He.emptyTab o = true := fun p hp => by
    have q := List.all_eq_true.mp h2 p hp
    rw [Bool.and_eq_true] at q
    obtain ⟨h3, h4⟩ := q
    refine ⟨h3, ?_⟩
    cases q : h.get? (He.cT (He.frT h.get? (asY h.get? n)) p).2 with
    | none =>
      rw [q] at h4
      cases h4
    | some o =>
      rw [q] at h4
      exact ⟨o, rfl, h4⟩
  exact ⟨e1, h1, fun p hp => (key p hp).1, fun p hp => by
    obtain ⟨_, o, q, z⟩ := key p hp
    exact He.frT_none q z, fun p hp => by
    obtain ⟨_, o, q, z⟩ := key p hp
    rw [q, He.emptyTab_eq z]⟩
def hookY (n : Nat) (fa : List He.Fa) (fn : List He.DefD) (ts : List He.Tab) (tf : List He.Defn) (ex : PySem.W.Frag → Bool) : PySem.W.Hook where
  α := He.AlX
  obs := fun s => obsY n fa fn ts tf ex s.heap.get?
  val := fun w => He.valX fn ts w
  says := fun w h => ∃ K : PySem.W.Frag, K.In h ∧ He.SaysX fa fn ts tf ex w h K
  of := fun _ _ e => ⟨_, He.frT_in, saysY_of e⟩
  keeps := fun _ _ _ ⟨K, hK, c⟩ k => ⟨K, PySem.W.Frag.In.keeps hK k, ⟨c.t, c.more, c.hd, c.out, fun p hp => k _ _ (c.empty p hp)⟩⟩
theorem obsY_eq {n : Nat} {fa : List He.Fa} {fn : List He.DefD} {ts : List He.Tab} {tf : List He.Defn} {ex : PySem.W.Frag → Bool} {g : Addr → Option Obj} {s : Shared} (h : ∀ a, g a = s.heap.get? a) : obsY n fa fn ts tf ex g = (hookY n fa fn ts tf ex).obs s := by
  have e : g = s.heap.get? := funext h
  rw [e] <;> rfl
end Sb
set_option linter.all false
set_option maxRecDepth 20000
set_option autoImplicit false
/-! C0: the meaning, step by step, as rules for simp. -/
namespace Sb
open PySem
/-! ### the pieces, as names of their own -/
def ownD (d : D) (Q : D → Prop) : Prop := match d with
  | .lst xs => Q (.own xs)
  | _ => False
@[simp] theorem ownD_lst {xs : List D} {Q : D → Prop} : ownD (.lst xs) Q = Q (.own xs) := (rfl)
def globD (P : Prog) (n : Nat) (Q : D → Prop) : Prop := match P.consts[n]? with
  | some d => Q d
  | none => False
def negD (d : D) (Q : D → Prop) : Prop := match d with
  | .int k => Q (.int (-k))
  | _ => False
@[simp] theorem negD_int {i : Int} {Q : D → Prop} : negD (.int i) Q = Q (.int (-i)) := (rfl)
def upD (x : D) (Q : D → Prop) : Prop := match x with
  | .str s => s.length ≤ 5592405 ∧ Q (.str (Txt.upper s))
  | _ => False
@[simp] theorem upD_str {s : Str} {Q : D → Prop} : upD (.str s) Q = (s.length ≤ 5592405 ∧ Q (.str (Txt.upper s))) := (rfl)
def isxD (P : Prog) (l : List Nat) (x : D) (Q : D → Prop) : Prop := match x with
  | .exc c _ => (P.exs.lookup c).isSome = true ∧ Q (.bool (l.contains c))
  | _ => False
def attxD (P : Prog) (n : Nat) (x : D) (Q : D → Prop) : Prop := match x with
  | .exc c ds => (match P.exs.lookup c with
    | some fs => (match fs.idxOf? n with
      | some i => (match ds[i]? with
        | some v => Q v
        | none => False)
      | none => False)
    | none => False)
  | _ => False
def callvD (Γ : List Clo) (ρ : Env) (i : Nat) (ds : List D) (S : Store) (Q E : QD) : Prop := match ρ[i]? with
  | some (some (.clo j)) => (match Γ[j]? with
    | some c => c ds S Q E
    | none => False)
  | _ => False
def lstarD (ds : List D) (d : D) (Q : D → Prop) : Prop := match d with
  | .tup xs => ds.length + xs.length ≤ sl ∧ Q (.lst (ds ++ xs))
  | .lst xs => ds.length + xs.length ≤ sl ∧ Q (.lst (ds ++ xs))
  | _ => False
@[simp] theorem lstarD_tup {ds xs : List D} {Q : D → Prop} : lstarD ds (.tup xs) Q = (ds.length + xs.length ≤ sl ∧ Q (.lst (ds ++ xs))) := (rfl)
@[simp] theorem lstarD_lst {ds xs : List D} {Q : D → Prop} : lstarD ds (.lst xs) Q = (ds.length + xs.length ≤ sl ∧ Q (.lst (ds ++ xs))) := (rfl)
def clsV (ρ : Env) (i c : Nat) (p : Prop) : Prop := match ρ[i]? with
  | some (some (.cls c')) => c' = c ∧ p
  | _ => False
@[simp] theorem clsV_0 {r : Env} {c c' : Nat} {p : Prop} : clsV (some (.cls c') :: r) 0 c p = (c' = c ∧ p) := (rfl)
@[simp] theorem strQ_str {Q : QD} {x : Str} {S : Store} : strQ Q (.str x) S = Q (.str x) S := (rfl)
@[simp] theorem boolQ_bool {ne c : Bool} {Q : QB} {S : Store} : boolQ ne Q (.bool c) S = Q (c ^^ ne) S := (rfl)
@[simp] theorem sameC_obj {c c' : Nat} {fs gs : List D} {S : Store} : sameC (.obj c fs) (.obj c' gs) S = (c = c') := (rfl)
@[simp] theorem sameC_none {c : Nat} {fs : List D}  {S : Store} : sameC (.obj c fs) (.none) S = (true = true) := (rfl)
@[simp] theorem sameC_bool {c : Nat} {fs : List D} {b : Bool} {S : Store} : sameC (.obj c fs) (.bool b) S = (true = true) := (rfl)
@[simp] theorem sameC_int {c : Nat} {fs : List D} {i : Int} {S : Store} : sameC (.obj c fs) (.int i) S = (true = true) := (rfl)
@[simp] theorem sameC_str {c : Nat} {fs : List D} {s : Str} {S : Store} : sameC (.obj c fs) (.str s) S = (true = true) := (rfl)
@[simp] theorem sameC_lst {c : Nat} {fs : List D} {xs : List D} {S : Store} : sameC (.obj c fs) (.lst xs) S = (true = true) := (rfl)
@[simp] theorem sameC_tup {c : Nat} {fs : List D} {xs : List D} {S : Store} : sameC (.obj c fs) (.tup xs) S = (true = true) := (rfl)
@[simp] theorem sameC_sd {c : Nat} {fs : List D} {l : List (Str × Int)} {S : Store} : sameC (.obj c fs) (.sd l) S = (true = true) := (rfl)
def forzD (ρ : Env) (i : Nat) (Q : List D → Env → Prop) : Prop := match ρ[i]? with
  | some (some (.own xs)) => Q xs (ρ.set i (some (.lst xs)))
  | _ => False
@[simp] theorem forzD_0 {r : Env} {xs : List D} {Q : List D → Env → Prop} : forzD (some (.own xs) :: r) 0 Q = Q xs (some (.lst xs) :: r) := (rfl)
@[simp] theorem forzD_1 {r : Env} {x0 : Option D} {xs : List D} {Q : List D → Env → Prop} : forzD (x0 :: some (.own xs) :: r) 1 Q = Q xs (x0 :: some (.lst xs) :: r) := (rfl)
@[simp] theorem forzD_2 {r : Env} {x0 x1 : Option D} {xs : List D} {Q : List D → Env → Prop} : forzD (x0 :: x1 :: some (.own xs) :: r) 2 Q = Q xs (x0 :: x1 :: some (.lst xs) :: r) := (rfl)
@[simp] theorem forzD_3 {r : Env} {x0 x1 x2 : Option D} {xs : List D} {Q : List D → Env → Prop} : forzD (x0 :: x1 :: x2 :: some (.own xs) :: r) 3 Q = Q xs (x0 :: x1 :: x2 :: some (.lst xs) :: r) := (rfl)
@[simp] theorem forzD_4 {r : Env} {x0 x1 x2 x3 : Option D} {xs : List D} {Q : List D → Env → Prop} : forzD (x0 :: x1 :: x2 :: x3 :: some (.own xs) :: r) 4 Q = Q xs (x0 :: x1 :: x2 :: x3 :: some (.lst xs) :: r) := (rfl)
@[simp] theorem forzD_5 {r : Env} {x0 x1 x2 x3 x4 : Option D} {xs : List D} {Q : List D → Env → Prop} : forzD (x0 :: x1 :: x2 :: x3 :: x4 :: some (.own xs) :: r) 5 Q = Q xs (x0 :: x1 :: x2 :: x3 :: x4 :: some (.lst xs) :: r) := (rfl)
@[simp] theorem forzD_6 {r : Env} {x0 x1 x2 x3 x4 x5 : Option D} {xs : List D} {Q : List D → Env → Prop} : forzD (x0 :: x1 :: x2 :: x3 :: x4 :: x5 :: some (.own xs) :: r) 6 Q = Q xs (x0 :: x1 :: x2 :: x3 :: x4 :: x5 :: some (.lst xs) :: r) := (rfl)
@[simp] theorem forzD_7 {r : Env} {x0 x1 x2 x3 x4 x5 x6 : Option D} {xs : List D} {Q : List D → Env → Prop} : forzD (x0 :: x1 :: x2 :: x3 :: x4 :: x5 :: x6 :: some (.own xs) :: r) 7 Q = Q xs (x0 :: x1 :: x2 :: x3 :: x4 :: x5 :: x6 :: some (.lst xs) :: r) := (rfl)
@[simp] theorem forzD_8 {r : Env} {x0 x1 x2 x3 x4 x5 x6 x7 : Option D} {xs : List D} {Q : List D → Env → Prop} : forzD (x0 :: x1 :: x2 :: x3 :: x4 :: x5 :: x6 :: x7 :: some (.own xs) :: r) 8 Q = Q xs (x0 :: x1 :: x2 :: x3 :: x4 :: x5 :: x6 :: x7 :: some (.lst xs) :: r) := (rfl)
@[simp] theorem forzD_9 {r : Env} {x0 x1 x2 x3 x4 x5 x6 x7 x8 : Option D} {xs : List D} {Q : List D → Env → Prop} : forzD (x0 :: x1 :: x2 :: x3 :: x4 :: x5 :: x6 :: x7 :: x8 :: some (.own xs) :: r) 9 Q = Q xs (x0 :: x1 :: x2 :: x3 :: x4 :: x5 :: x6 :: x7 :: x8 :: some (.lst xs) :: r) := (rfl)
@[simp] theorem forzD_10 {r : Env} {x0 x1 x2 x3 x4 x5 x6 x7 x8 x9 : Option D} {xs : List D} {Q : List D → Env → Prop} : forzD (x0 :: x1 :: x2 :: x3 :: x4 :: x5 :: x6 :: x7 :: x8 :: x9 :: some (.own xs) :: r) 10 Q = Q xs (x0 :: x1 :: x2 :: x3 :: x4 :: x5 :: x6 :: x7 :: x8 :: x9 :: some (.lst xs) :: r) := (rfl)
@[simp] theorem forzD_11 {r : Env} {x0 x1 x2 x3 x4 x5 x6 x7 x8 x9 x10 : Option D} {xs : List D} {Q : List D → Env → Prop} : forzD (x0 :: x1 :: x2 :: x3 :: x4 :: x5 :: x6 :: x7 :: x8 :: x9 :: x10 :: some (.own xs) :: r) 11 Q = Q xs (x0 :: x1 :: x2 :: x3 :: x4 :: x5 :: x6 :: x7 :: x8 :: x9 :: x10 :: some (.lst xs) :: r) := (rfl)
def boolC (d : D) (Q : Bool → Prop) : Prop := match d with
  | .bool k => Q k
  | _ => False
@[simp] theorem boolC_bool {b : Bool} {Q : Bool → Prop} : boolC (.bool b) Q = Q b := (rfl)
def ixS (x y : D) (S : Store) (Q : D → Prop) : Prop := match x with
  | .ptr p => (match S p with
    | some (.lst xs) => ixD (.lst xs) y Q
    | _ => False)
  | x => ixD x y Q
def boxD (d : D) (S : Store) (Q : QD) : Prop := match d with
  | .lst xs => ∀ a : Nat, S a = none → Q (.ptr a) (S.put a (.lst xs))
  | _ => False
@[simp] theorem boxD_lst {xs : List D} {S : Store} {Q : QD} : boxD (.lst xs) S Q = (∀ a : Nat, S a = none → Q (.ptr a) (S.put a (.lst xs))) := (rfl)
def intO (d : D) (Q : Option Int → Prop) : Prop := match d with
  | .int k => Q (some k)
  | _ => False
@[simp] theorem intO_int {i : Int} {Q : Option Int → Prop} : intO (.int i) Q = Q (some i) := (rfl)
def rng1D (d : D) (Q : List D → Prop) : Prop := match d with
  | .int j => (-(2 ^ 62) ≤ j ∧ j < 2 ^ 62) ∧ Q ((List.range j.toNat).map fun (k : Nat) => D.int (0 + (k : Int)))
  | _ => False
def rng2D (x y : D) (Q : List D → Prop) : Prop := match x, y with
  | .int i, .int j => (-(2 ^ 62) ≤ i ∧ i < 2 ^ 62 ∧ -(2 ^ 62) ≤ j ∧ j < 2 ^ 62) ∧ Q ((List.range (j - i).toNat).map fun (k : Nat) => D.int (i + (k : Int)))
  | _, _ => False
def enumD (x : D) (Q : List D → Prop) : Prop := match x with
  | .lst xs => Q (enumL 0 xs)
  | .tup xs => Q (enumL 0 xs)
  | _ => False
@[simp] theorem enumD_lst {xs : List D} {Q : List D → Prop} : enumD (.lst xs) Q = Q (enumL 0 xs) := (rfl)
@[simp] theorem enumD_tup {xs : List D} {Q : List D → Prop} : enumD (.tup xs) Q = Q (enumL 0 xs) := (rfl)
def zipD (ds : List D) (Q : List D → Prop) : Prop := match ds with
  | [.lst xs, .lst ys] => Q (zipL [xs, ys])
  | [.tup xs, .tup ys] => Q (zipL [xs, ys])
  | _ => False
@[simp] theorem zipD_lst {xs ys : List D} {Q : List D → Prop} : zipD [.lst xs, .lst ys] Q = Q (List.zipWith (fun x y => .tup [x, y]) xs ys) := (rfl)
@[simp] theorem zipD_tup {xs ys : List D} {Q : List D → Prop} : zipD [.tup xs, .tup ys] Q = Q (List.zipWith (fun x y => .tup [x, y]) xs ys) := (rfl)
def tupG (n : Nat) (d : D) (Q : List D → Prop) : Prop := match d with
  | .tup ds => ds.length = n ∧ Q ds
  | .lst ds => ds.length = n ∧ Q ds
  | _ => False
@[simp] theorem tupG_lst {n : Nat} {ds : List D} {Q : List D → Prop} : tupG n (.lst ds) Q = (ds.length = n ∧ Q ds) := (rfl)
@[simp] theorem tupG_tup {n : Nat} {ds : List D} {Q : List D → Prop} : tupG n (.tup ds) Q = (ds.length = n ∧ Q ds) := (rfl)
section
variable {P : Prog} {F : Fsem} {Γ : List Clo} {ρ : Env} {S : Store} {Q : QD} {QT : QB} {QL' : QL} {E : QD}
@[simp] theorem we_cst {c : Cst} : (ev P F Γ (.cst c)).e ρ S Q E = (Q c.d S) := (rfl)
@[simp] theorem we_var {n : Nat} : (ev P F Γ (.var n)).e ρ S Q E = (getV ρ n fun d => Q d S) := (rfl)
@[simp] theorem we_bvar {n : Nat} : (ev P F Γ (.bvar n)).e ρ S Q E = (getB ρ n fun d => Q d S) := (rfl)
@[simp] theorem we_lend {n : Nat} : (ev P F Γ (.lend n)).e ρ S Q E = (getL ρ n fun d => Q d S) := (rfl)
@[simp] theorem we_mkown {a : Ex} : (ev P F Γ (.mkown a)).e ρ S Q E = ((ev P F Γ a).e ρ S (fun d S => ownD d fun x => Q x S) E) := (rfl)
@[simp] theorem we_glob {n : Nat} : (ev P F Γ (.glob n)).e ρ S Q E = (globD P n fun d => Q d S) := (rfl)
@[simp] theorem we_bin {o : Bo} {a b : Ex} : (ev P F Γ (.bin o a b)).e ρ S Q E = ((ev P F Γ a).e ρ S (fun x S => (ev P F Γ b).e ρ S (fun y S => binD o x y fun z => Q z S) E) E) := (rfl)
@[simp] theorem we_neg {a : Ex} : (ev P F Γ (.neg a)).e ρ S Q E = ((ev P F Γ a).e ρ S (fun x S => negD x fun z => Q z S) E) := (rfl)
@[simp] theorem we_cmp {o : Co} {a b : Ex} : (ev P F Γ (.cmp o a b)).e ρ S Q E = ((ev P F Γ a).e ρ S (fun x S => (ev P F Γ b).e ρ S (fun y S => cmpX P F Γ o x y S (fun b S => Q (.bool b) S) E) E) E) := (rfl)
@[simp] theorem we_cmp2 {o o2 : Co} {a b c : Ex} : (ev P F Γ (.cmp2 o o2 a b c)).e ρ S Q E = ((ev P F Γ (.cmp2 o o2 a b c)).t ρ S (fun b S => Q (.bool b) S) E) := (rfl)
@[simp] theorem we_and {a b : Ex} : (ev P F Γ (.and a b)).e ρ S Q E = ((ev P F Γ a).e ρ S (fun x S => boolC x (fun k => if k = true then (ev P F Γ b).e ρ S Q E else Q (.bool false) S)) E) := (rfl)
@[simp] theorem we_or {a b : Ex} : (ev P F Γ (.or a b)).e ρ S Q E = ((ev P F Γ a).e ρ S (fun x S => boolC x (fun k => if k = true then Q (.bool true) S else (ev P F Γ b).e ρ S Q E)) E) := (rfl)
@[simp] theorem we_not {a : Ex} : (ev P F Γ (.not a)).e ρ S Q E = ((ev P F Γ a).e ρ S (fun x S => boolC x (fun k => Q (.bool (!k)) S)) E) := (rfl)
@[simp] theorem we_ife {c a b : Ex} : (ev P F Γ (.ife c a b)).e ρ S Q E = ((ev P F Γ c).t ρ S (fun k S => if k = true then (ev P F Γ a).e ρ S Q E else (ev P F Γ b).e ρ S Q E) E) := (rfl)
@[simp] theorem we_lst {es : Ex} : (ev P F Γ (.lst es)).e ρ S Q E = ((ev P F Γ es).l ρ S (fun ds S => ds.length ≤ sl ∧ Q (.lst ds) S) E) := (rfl)
@[simp] theorem we_tup {es : Ex} : (ev P F Γ (.tup es)).e ρ S Q E = ((ev P F Γ es).l ρ S (fun ds S => ds.length ≤ sl ∧ Q (.tup ds) S) E) := (rfl)
@[simp] theorem we_ix {a i : Ex} : (ev P F Γ (.ix a i)).e ρ S Q E = ((ev P F Γ a).e ρ S (fun x S => (ev P F Γ i).e ρ S (fun y S => ixS x y S fun z => Q z S) E) E) := (rfl)
@[simp] theorem we_sl {a lo hi : Ex} : (ev P F Γ (.sl a lo hi)).e ρ S Q E = ((ev P F Γ a).e ρ S (fun x S => (ev P F Γ lo).o ρ S (fun l S => (ev P F Γ hi).o ρ S (fun h S => slD x l h fun z => Q z S) E) E) E) := (rfl)
@[simp] theorem we_rev {a : Ex} : (ev P F Γ (.rev a)).e ρ S Q E = ((ev P F Γ a).e ρ S (fun x S => revD x fun z => Q z S) E) := (rfl)
@[simp] theorem we_attr {a : Ex} {n : Nat} : (ev P F Γ (.attr a n)).e ρ S Q E = ((ev P F Γ a).e ρ S (fun x S => attrD P F Γ n x S Q E) E) := (rfl)
@[simp] theorem we_call {f : Nat} {es kes : Ex} {ks : List Nat} : (ev P F Γ (.call f es kes ks)).e ρ S Q E = ((ev P F Γ es).l ρ S (fun ds S => (ev P F Γ kes).l ρ S (fun es S => es.length = ks.length ∧ callD P F Γ f ks (ds ++ es) S Q E) E) E) := (rfl)
@[simp] theorem we_mk {c : Nat} {es kes : Ex} {ks : List Nat} : (ev P F Γ (.mk c es kes ks)).e ρ S Q E = ((ev P F Γ es).l ρ S (fun ds S => (ev P F Γ kes).l ρ S (fun es S => es.length = ks.length ∧ mkD P F Γ c ks (ds ++ es) S Q E) E) E) := (rfl)
@[simp] theorem we_bi {b : Bi} {es : Ex} : (ev P F Γ (.bi b es)).e ρ S Q E = ((ev P F Γ es).l ρ S (fun ds S => biX P F Γ b ds S Q E) E) := (rfl)
@[simp] theorem we_mt {m : Mt} {a es : Ex} : (ev P F Γ (.mt m a es)).e ρ S Q E = ((ev P F Γ a).e ρ S (fun x S => mtAble m x = true ∧ (ev P F Γ es).l ρ S (fun ds S => mtD m x ds fun z => Q z S) E) E) := (rfl)
@[simp] theorem we_isi {a : Ex} {ts : List Ty} : (ev P F Γ (.isi a ts)).e ρ S Q E = ((ev P F Γ a).e ρ S (fun x S => (isAble x = true ∧ clsIn P x = true) ∧ Q (.bool (ts.any (tyD x))) S) E) := (rfl)
@[simp] theorem we_comp {t it c x : Ex} {own : List Nat} : (ev P F Γ (.comp t it c x own)).e ρ S Q E = ((ev P F Γ it).i ρ S (fun xs S => loopC (fun d S k => (ev P F Γ t).g d (wipe own ρ) S k fun _ _ => False) (fun ρ S Q => (ev P F Γ c).t ρ S Q fun _ _ => False) (fun ρ S Q => (ev P F Γ x).e ρ S Q fun _ _ => False) xs [] S fun ds S => Q (.lst ds) S) E) := (rfl)
@[simp] theorem we_comp2 {t it c t2 it2 c2 x : Ex} {own own2 : List Nat} : (ev P F Γ (.comp2 t it c t2 it2 c2 x own own2)).e ρ S Q E = ((ev P F Γ it).i ρ S (fun xs S =>
      loopC2 (fun d S k => (ev P F Γ t).g d (wipe own ρ) S k fun _ _ => False) (fun ρ S Q => (ev P F Γ c).t ρ S Q fun _ _ => False)
        (fun ρ acc S Q => (ev P F Γ it2).i ρ S (fun ys S => loopC (fun d S k => (ev P F Γ t2).g d (wipe own2 ρ) S k fun _ _ => False) (fun ρ S Q => (ev P F Γ c2).t ρ S Q fun _ _ => False) (fun ρ S Q => (ev P F Γ x).e ρ S Q fun _ _ => False) ys acc S Q) fun _ _ => False)
        xs [] S fun ds S => Q (.lst ds) S) E) := (rfl)
@[simp] theorem we_listof {it : Ex} : (ev P F Γ (.listof it)).e ρ S Q E = ((ev P F Γ it).i ρ S (fun xs S => xs.length ≤ sl ∧ Q (.lst xs) S) E) := (rfl)
@[simp] theorem we_tupof {it : Ex} : (ev P F Γ (.tupof it)).e ρ S Q E = ((ev P F Γ it).i ρ S (fun xs S => xs.length ≤ sl ∧ Q (.tup xs) S) E) := (rfl)
@[simp] theorem we_srl {x : Ex} : (ev P F Γ (.srl x)).e ρ S Q E = ((ev P F Γ x).e ρ S (fun d S => srD d fun d => Q d S) E) := (rfl)
@[simp] theorem we_isx {a : Ex} {k : Option Nat} {s : Str} {l : List Nat} : (ev P F Γ (.isx a k s l)).e ρ S Q E = ((ev P F Γ a).e ρ S (fun x S => isxD P l x fun d => Q d S) E) := (rfl)
@[simp] theorem we_attx {a : Ex} {n : Nat} : (ev P F Γ (.attx a n)).e ρ S Q E = ((ev P F Γ a).e ρ S (fun x S => attxD P n x fun d => Q d S) E) := (rfl)
@[simp] theorem we_lamc {f : Nat} {b : Ex} : (ev P F Γ (.lamc f b)).e ρ S Q E = (F [fun args S Q E => args = [] ∧ (ev P F Γ b).e ρ S Q E] f [.clo 0] S Q E) := (rfl)
@[simp] theorem we_sdl {l : List (Str × Int)} : (ev P F Γ (.sdl l)).e ρ S Q E = (Q (.sd l) S) := (rfl)
@[simp] theorem we_up {a : Ex} : (ev P F Γ (.up a)).e ρ S Q E = ((ev P F Γ a).e ρ S (fun x S => upD x fun d => Q d S) E) := (rfl)
@[simp] theorem we_stro {a : Ex} : (ev P F Γ (.stro a)).e ρ S Q E = ((ev P F Γ a).e ρ S (fun x S => ownX P F Γ (·.str) x [] S (strQ Q)) E) := (rfl)
@[simp] theorem we_eqo {ne : Bool} {a b : Ex} : (ev P F Γ (.eqo ne a b)).e ρ S Q E = ((ev P F Γ a).e ρ S (fun x S => (ev P F Γ b).e ρ S (fun y S => sameC x y S ∧ ownX P F Γ (·.eq) x [y] S (boolQ ne fun b S => Q (.bool b) S)) E) E) := (rfl)
@[simp] theorem we_inso {ng : Bool} {a b : Ex} : (ev P F Γ (.inso ng a b)).e ρ S Q E = ((ev P F Γ a).e ρ S (fun x S => (ev P F Γ b).e ρ S (fun y S => ownX P F Γ (·.has) y [x] S (boolQ ng fun b S => Q (.bool b) S)) E) E) := (rfl)
@[simp] theorem we_boolo {a : Ex} : (ev P F Γ (.boolo a)).e ρ S Q E = ((ev P F Γ a).e ρ S (fun x S => ownX P F Γ (·.tru) x [] S (boolQ false fun b S => Q (.bool b) S)) E) := (rfl)
@[simp] theorem we_lstar {es x : Ex} : (ev P F Γ (.lstar es x)).e ρ S Q E = ((ev P F Γ es).l ρ S (fun ds S => (ev P F Γ x).e ρ S (fun d S => lstarD ds d fun z => Q z S) E) E) := (rfl)
@[simp] theorem we_mkv {c i : Nat} {es : Ex} : (ev P F Γ (.mkv c i es)).e ρ S Q E = (clsV ρ i c ((ev P F Γ es).l ρ S (fun ds S => mkD P F Γ c [] ds S Q E) E)) := (rfl)
@[simp] theorem we_cmt {c f : Nat} {es kes : Ex} {ks : List Nat} : (ev P F Γ (.cmt c f es kes ks)).e ρ S Q E = ((ev P F Γ es).l ρ S (fun ds S => (ev P F Γ kes).l ρ S (fun es S => es.length = ks.length ∧ callD P F Γ f ks (.cls c :: (ds ++ es)) S Q E) E) E) := (rfl)
@[simp] theorem we_box {x : Ex} : (ev P F Γ (.box x)).e ρ S Q E = ((ev P F Γ x).e ρ S (fun d S => boxD d S Q) E) := (rfl)
@[simp] theorem wt_isx {a : Ex} {k : Option Nat} {s : Str} {l : List Nat} : (ev P F Γ (.isx a k s l)).t ρ S QT E = (ev P F Γ (.isx a k s l)).e ρ S (fun d S => truX P F Γ d S QT E) E := (rfl)
@[simp] theorem wt_attx {a : Ex} {n : Nat} : (ev P F Γ (.attx a n)).t ρ S QT E = (ev P F Γ (.attx a n)).e ρ S (fun d S => truX P F Γ d S QT E) E := (rfl)
@[simp] theorem wt_lamc {f : Nat} {b : Ex} : (ev P F Γ (.lamc f b)).t ρ S QT E = (ev P F Γ (.lamc f b)).e ρ S (fun d S => truX P F Γ d S QT E) E := (rfl)
@[simp] theorem wt_cst {c : Cst} : (ev P F Γ (.cst c)).t ρ S QT E = (ev P F Γ (.cst c)).e ρ S (fun d S => truX P F Γ d S QT E) E := (rfl)
@[simp] theorem wt_var {n : Nat} : (ev P F Γ (.var n)).t ρ S QT E = (ev P F Γ (.var n)).e ρ S (fun d S => truX P F Γ d S QT E) E := (rfl)
@[simp] theorem wt_bvar {n : Nat} : (ev P F Γ (.bvar n)).t ρ S QT E = (ev P F Γ (.bvar n)).e ρ S (fun d S => truX P F Γ d S QT E) E := (rfl)
@[simp] theorem wt_glob {n : Nat} : (ev P F Γ (.glob n)).t ρ S QT E = (ev P F Γ (.glob n)).e ρ S (fun d S => truX P F Γ d S QT E) E := (rfl)
@[simp] theorem wt_bin {o : Bo} {a b : Ex} : (ev P F Γ (.bin o a b)).t ρ S QT E = (ev P F Γ (.bin o a b)).e ρ S (fun d S => truX P F Γ d S QT E) E := (rfl)
@[simp] theorem wt_ife {c a b : Ex} : (ev P F Γ (.ife c a b)).t ρ S QT E = (ev P F Γ (.ife c a b)).e ρ S (fun d S => truX P F Γ d S QT E) E := (rfl)
@[simp] theorem wt_ix {a i : Ex} : (ev P F Γ (.ix a i)).t ρ S QT E = (ev P F Γ (.ix a i)).e ρ S (fun d S => truX P F Γ d S QT E) E := (rfl)
@[simp] theorem wt_sl {a lo hi : Ex} : (ev P F Γ (.sl a lo hi)).t ρ S QT E = (ev P F Γ (.sl a lo hi)).e ρ S (fun d S => truX P F Γ d S QT E) E := (rfl)
@[simp] theorem wt_attr {a : Ex} {n : Nat} : (ev P F Γ (.attr a n)).t ρ S QT E = (ev P F Γ (.attr a n)).e ρ S (fun d S => truX P F Γ d S QT E) E := (rfl)
@[simp] theorem wt_call {f : Nat} {es kes : Ex} {ks : List Nat} : (ev P F Γ (.call f es kes ks)).t ρ S QT E = (ev P F Γ (.call f es kes ks)).e ρ S (fun d S => truX P F Γ d S QT E) E := (rfl)
@[simp] theorem wt_bi {b : Bi} {es : Ex} : (ev P F Γ (.bi b es)).t ρ S QT E = (ev P F Γ (.bi b es)).e ρ S (fun d S => truX P F Γ d S QT E) E := (rfl)
@[simp] theorem wt_mt {m : Mt} {a es : Ex} : (ev P F Γ (.mt m a es)).t ρ S QT E = (ev P F Γ (.mt m a es)).e ρ S (fun d S => truX P F Γ d S QT E) E := (rfl)
@[simp] theorem wt_isi {a : Ex} {ts : List Ty} : (ev P F Γ (.isi a ts)).t ρ S QT E = (ev P F Γ (.isi a ts)).e ρ S (fun d S => truX P F Γ d S QT E) E := (rfl)
@[simp] theorem wt_lst {es : Ex} : (ev P F Γ (.lst es)).t ρ S QT E = (ev P F Γ (.lst es)).e ρ S (fun d S => truX P F Γ d S QT E) E := (rfl)
@[simp] theorem wt_tup {es : Ex} : (ev P F Γ (.tup es)).t ρ S QT E = (ev P F Γ (.tup es)).e ρ S (fun d S => truX P F Γ d S QT E) E := (rfl)
@[simp] theorem wt_comp {t it c x : Ex} {own : List Nat} : (ev P F Γ (.comp t it c x own)).t ρ S QT E = (ev P F Γ (.comp t it c x own)).e ρ S (fun d S => truX P F Γ d S QT E) E := (rfl)
@[simp] theorem wi_isx {a : Ex} {k : Option Nat} {s : Str} {l : List Nat} : (ev P F Γ (.isx a k s l)).i ρ S QL' E = (ev P F Γ (.isx a k s l)).e ρ S (fun d S => itemsD d fun xs => QL' xs S) E := (rfl)
@[simp] theorem wi_attx {a : Ex} {n : Nat} : (ev P F Γ (.attx a n)).i ρ S QL' E = (ev P F Γ (.attx a n)).e ρ S (fun d S => itemsD d fun xs => QL' xs S) E := (rfl)
@[simp] theorem wi_lamc {f : Nat} {b : Ex} : (ev P F Γ (.lamc f b)).i ρ S QL' E = (ev P F Γ (.lamc f b)).e ρ S (fun d S => itemsD d fun xs => QL' xs S) E := (rfl)
@[simp] theorem wi_cst {c : Cst} : (ev P F Γ (.cst c)).i ρ S QL' E = (ev P F Γ (.cst c)).e ρ S (fun d S => itemsD d fun xs => QL' xs S) E := (rfl)
@[simp] theorem wi_var {n : Nat} : (ev P F Γ (.var n)).i ρ S QL' E = (ev P F Γ (.var n)).e ρ S (fun d S => itemsD d fun xs => QL' xs S) E := (rfl)
@[simp] theorem wi_bvar {n : Nat} : (ev P F Γ (.bvar n)).i ρ S QL' E = (ev P F Γ (.bvar n)).e ρ S (fun d S => itemsD d fun xs => QL' xs S) E := (rfl)
@[simp] theorem wi_glob {n : Nat} : (ev P F Γ (.glob n)).i ρ S QL' E = (ev P F Γ (.glob n)).e ρ S (fun d S => itemsD d fun xs => QL' xs S) E := (rfl)
@[simp] theorem wi_bin {o : Bo} {a b : Ex} : (ev P F Γ (.bin o a b)).i ρ S QL' E = (ev P F Γ (.bin o a b)).e ρ S (fun d S => itemsD d fun xs => QL' xs S) E := (rfl)
@[simp] theorem wi_ife {c a b : Ex} : (ev P F Γ (.ife c a b)).i ρ S QL' E = (ev P F Γ (.ife c a b)).e ρ S (fun d S => itemsD d fun xs => QL' xs S) E := (rfl)
@[simp] theorem wi_ix {a i : Ex} : (ev P F Γ (.ix a i)).i ρ S QL' E = (ev P F Γ (.ix a i)).e ρ S (fun d S => itemsD d fun xs => QL' xs S) E := (rfl)
@[simp] theorem wi_sl {a lo hi : Ex} : (ev P F Γ (.sl a lo hi)).i ρ S QL' E = (ev P F Γ (.sl a lo hi)).e ρ S (fun d S => itemsD d fun xs => QL' xs S) E := (rfl)
@[simp] theorem wi_attr {a : Ex} {n : Nat} : (ev P F Γ (.attr a n)).i ρ S QL' E = (ev P F Γ (.attr a n)).e ρ S (fun d S => itemsD d fun xs => QL' xs S) E := (rfl)
@[simp] theorem wi_call {f : Nat} {es kes : Ex} {ks : List Nat} : (ev P F Γ (.call f es kes ks)).i ρ S QL' E = (ev P F Γ (.call f es kes ks)).e ρ S (fun d S => itemsD d fun xs => QL' xs S) E := (rfl)
@[simp] theorem wi_bi {b : Bi} {es : Ex} : (ev P F Γ (.bi b es)).i ρ S QL' E = (ev P F Γ (.bi b es)).e ρ S (fun d S => itemsD d fun xs => QL' xs S) E := (rfl)
@[simp] theorem wi_mt {m : Mt} {a es : Ex} : (ev P F Γ (.mt m a es)).i ρ S QL' E = (ev P F Γ (.mt m a es)).e ρ S (fun d S => itemsD d fun xs => QL' xs S) E := (rfl)
@[simp] theorem wi_isi {a : Ex} {ts : List Ty} : (ev P F Γ (.isi a ts)).i ρ S QL' E = (ev P F Γ (.isi a ts)).e ρ S (fun d S => itemsD d fun xs => QL' xs S) E := (rfl)
@[simp] theorem wi_lst {es : Ex} : (ev P F Γ (.lst es)).i ρ S QL' E = (ev P F Γ (.lst es)).e ρ S (fun d S => itemsD d fun xs => QL' xs S) E := (rfl)
@[simp] theorem wi_tup {es : Ex} : (ev P F Γ (.tup es)).i ρ S QL' E = (ev P F Γ (.tup es)).e ρ S (fun d S => itemsD d fun xs => QL' xs S) E := (rfl)
@[simp] theorem wi_comp {t it c x : Ex} {own : List Nat} : (ev P F Γ (.comp t it c x own)).i ρ S QL' E = (ev P F Γ (.comp t it c x own)).e ρ S (fun d S => itemsD d fun xs => QL' xs S) E := (rfl)
@[simp] theorem wi_listof {it : Ex} : (ev P F Γ (.listof it)).i ρ S QL' E = (ev P F Γ (.listof it)).e ρ S (fun d S => itemsD d fun xs => QL' xs S) E := (rfl)
@[simp] theorem wi_rev {a : Ex} : (ev P F Γ (.rev a)).i ρ S QL' E = (ev P F Γ (.rev a)).e ρ S (fun d S => itemsD d fun xs => QL' xs S) E := (rfl)
@[simp] theorem wo_cst {QO : Option Int → Store → Prop} {c : Cst} : (ev P F Γ (.cst c)).o ρ S QO E = (ev P F Γ (.cst c)).e ρ S (fun d S => intO d fun k => QO k S) E := (rfl)
@[simp] theorem wo_var {QO : Option Int → Store → Prop} {n : Nat} : (ev P F Γ (.var n)).o ρ S QO E = (ev P F Γ (.var n)).e ρ S (fun d S => intO d fun k => QO k S) E := (rfl)
@[simp] theorem wo_bvar {QO : Option Int → Store → Prop} {n : Nat} : (ev P F Γ (.bvar n)).o ρ S QO E = (ev P F Γ (.bvar n)).e ρ S (fun d S => intO d fun k => QO k S) E := (rfl)
@[simp] theorem wo_glob {QO : Option Int → Store → Prop} {n : Nat} : (ev P F Γ (.glob n)).o ρ S QO E = (ev P F Γ (.glob n)).e ρ S (fun d S => intO d fun k => QO k S) E := (rfl)
@[simp] theorem wo_bin {QO : Option Int → Store → Prop} {o : Bo} {a b : Ex} : (ev P F Γ (.bin o a b)).o ρ S QO E = (ev P F Γ (.bin o a b)).e ρ S (fun d S => intO d fun k => QO k S) E := (rfl)
@[simp] theorem wo_neg {QO : Option Int → Store → Prop} {a : Ex} : (ev P F Γ (.neg a)).o ρ S QO E = (ev P F Γ (.neg a)).e ρ S (fun d S => intO d fun k => QO k S) E := (rfl)
@[simp] theorem wo_bi {QO : Option Int → Store → Prop} {b : Bi} {es : Ex} : (ev P F Γ (.bi b es)).o ρ S QO E = (ev P F Γ (.bi b es)).e ρ S (fun d S => intO d fun k => QO k S) E := (rfl)
@[simp] theorem wo_ix {QO : Option Int → Store → Prop} {a i : Ex} : (ev P F Γ (.ix a i)).o ρ S QO E = (ev P F Γ (.ix a i)).e ρ S (fun d S => intO d fun k => QO k S) E := (rfl)
@[simp] theorem wo_attr {QO : Option Int → Store → Prop} {a : Ex} {n : Nat} : (ev P F Γ (.attr a n)).o ρ S QO E = (ev P F Γ (.attr a n)).e ρ S (fun d S => intO d fun k => QO k S) E := (rfl)
@[simp] theorem we_callv {i : Nat} : (ev P F Γ (.callv i .nil)).e ρ S Q E = callvD Γ ρ i [] S Q E := (rfl)
@[simp] theorem wo_nil {QO : Option Int → Store → Prop} : (ev P F Γ .nil).o ρ S QO E = QO none S := (rfl)
@[simp] theorem wt_cmp {o : Co} {a b : Ex} : (ev P F Γ (.cmp o a b)).t ρ S QT E = (ev P F Γ a).e ρ S (fun x S => (ev P F Γ b).e ρ S (fun y S => cmpX P F Γ o x y S QT E) E) E := (rfl)
@[simp] theorem wt_cmp2 {o o2 : Co} {a b c : Ex} : (ev P F Γ (.cmp2 o o2 a b c)).t ρ S QT E = (ev P F Γ a).e ρ S (fun x S => (ev P F Γ b).e ρ S (fun y S => cmpX P F Γ o x y S (fun k S =>
      if k = true then (ev P F Γ c).e ρ S (fun z S => cmpX P F Γ o2 y z S QT E) E else QT false S) E) E) E := (rfl)
@[simp] theorem wt_and {a b : Ex} : (ev P F Γ (.and a b)).t ρ S QT E = (ev P F Γ a).t ρ S (fun k S => if k = true then (ev P F Γ b).t ρ S QT E else QT false S) E := (rfl)
@[simp] theorem wt_or {a b : Ex} : (ev P F Γ (.or a b)).t ρ S QT E = (ev P F Γ a).t ρ S (fun k S => if k = true then QT true S else (ev P F Γ b).t ρ S QT E) E := (rfl)
@[simp] theorem wt_not {a : Ex} : (ev P F Γ (.not a)).t ρ S QT E = (ev P F Γ a).t ρ S (fun k S => QT (!k) S) E := (rfl)
@[simp] theorem wt_inso {ng : Bool} {a b : Ex} : (ev P F Γ (.inso ng a b)).t ρ S QT E = (ev P F Γ a).e ρ S (fun x S => (ev P F Γ b).e ρ S (fun y S => ownX P F Γ (·.has) y [x] S (boolQ ng QT)) E) E := (rfl)
@[simp] theorem wt_eqo {ne : Bool} {a b : Ex} : (ev P F Γ (.eqo ne a b)).t ρ S QT E = (ev P F Γ a).e ρ S (fun x S => (ev P F Γ b).e ρ S (fun y S => sameC x y S ∧ ownX P F Γ (·.eq) x [y] S (boolQ ne QT)) E) E := (rfl)
@[simp] theorem wt_yes : (ev P F Γ .yes).t ρ S QT E = QT true S := (rfl)
@[simp] theorem wl_nil : (ev P F Γ .nil).l ρ S QL' E = QL' [] S := (rfl)
@[simp] theorem wl_cons {a r : Ex} : (ev P F Γ (.cons a r)).l ρ S QL' E = (ev P F Γ a).e ρ S (fun d S => (ev P F Γ r).l ρ S (fun ds S => QL' (d :: ds) S) E) E := (rfl)
@[simp] theorem wi_rng1 {a : Ex} : (ev P F Γ (.rng1 a)).i ρ S QL' E = (ev P F Γ a).e ρ S (fun x S => rng1D x fun xs => QL' xs S) E := (rfl)
@[simp] theorem wi_rng2 {a b : Ex} : (ev P F Γ (.rng2 a b)).i ρ S QL' E = (ev P F Γ a).e ρ S (fun x S => (ev P F Γ b).e ρ S (fun y S => rng2D x y fun xs => QL' xs S) E) E := (rfl)
@[simp] theorem wi_enum {a : Ex} : (ev P F Γ (.enum a)).i ρ S QL' E = (ev P F Γ a).e ρ S (fun x S => enumD x fun xs => QL' xs S) E := (rfl)
@[simp] theorem wi_zip {es : Ex} : (ev P F Γ (.zip es)).i ρ S QL' E = (ev P F Γ es).l ρ S (fun ds S => zipD ds fun xs => QL' xs S) E := (rfl)
variable {k : Env → Store → Prop} {d : D}
@[simp] theorem wg_var {n : Nat} : (ev P F Γ (.var n)).g d ρ S k E = k (ρ.set n (some d)) S := (rfl)
@[simp] theorem wg_tup {es : Ex} : (ev P F Γ (.tup es)).g d ρ S k E = tupG (exLen es) d fun ds => (ev P F Γ es).gs ds ρ S k E := (rfl)
@[simp] theorem wgs_nil {ds : List D} : (ev P F Γ .nil).gs ds ρ S k E = (ds = [] ∧ k ρ S) := (rfl)
@[simp] theorem wgs_cons {a r : Ex} {x : D} {ds : List D} : (ev P F Γ (.cons a r)).gs (x :: ds) ρ S k E = (ev P F Γ a).g x ρ S (fun ρ S => (ev P F Γ r).gs ds ρ S k E) E := (rfl)
@[simp] theorem wg_ix {n : Nat} {i : Ex} : (ev P F Γ (.ix (.var n) i)).g d ρ S k E = (slotOf (.var n) ρ = true ∧ (ev P F Γ i).e ρ S (fun iv S => setIxD ρ n iv d S k) E) := (rfl)
end
end Sb
set_option linter.all false
set_option maxRecDepth 20000
set_option autoImplicit false
/-! C0b: operators on data, as rules for simp. -/
namespace Sb
open PySem
section
variable {P : Prog} {F : Fsem} {Γ : List Clo} {ρ : Env} {r : Env} {S : Store} {Q : QD} {QT : QB} {E : QD} {k : D → Prop} {kb : Bool → Prop}
@[simp] theorem getV_int {i : Int} : (getV (some (.int i) :: r) 0 k) = (k (.int i)) := (rfl)
@[simp] theorem getB_int {i : Int} : (getB (some (.int i) :: r) 0 k) = (k (.int i)) := (rfl)
@[simp] theorem getL_int {i : Int} : (getL (some (.int i) :: r) 0 k) = (k (.int i)) := (rfl)
@[simp] theorem getV_bool {b : Bool} : (getV (some (.bool b) :: r) 0 k) = (k (.bool b)) := (rfl)
@[simp] theorem getB_bool {b : Bool} : (getB (some (.bool b) :: r) 0 k) = (k (.bool b)) := (rfl)
@[simp] theorem getL_bool {b : Bool} : (getL (some (.bool b) :: r) 0 k) = (k (.bool b)) := (rfl)
@[simp] theorem getV_str {x : Str} : (getV (some (.str x) :: r) 0 k) = (k (.str x)) := (rfl)
@[simp] theorem getB_str {x : Str} : (getB (some (.str x) :: r) 0 k) = (k (.str x)) := (rfl)
@[simp] theorem getL_str {x : Str} : (getL (some (.str x) :: r) 0 k) = (k (.str x)) := (rfl)
@[simp] theorem getV_tup {xs : List D} : (getV (some (.tup xs) :: r) 0 k) = (k (.tup xs)) := (rfl)
@[simp] theorem getB_tup {xs : List D} : (getB (some (.tup xs) :: r) 0 k) = (k (.tup xs)) := (rfl)
@[simp] theorem getL_tup {xs : List D} : (getL (some (.tup xs) :: r) 0 k) = (k (.tup xs)) := (rfl)
@[simp] theorem getV_lst {xs : List D} : (getV (some (.lst xs) :: r) 0 k) = (k (.lst xs)) := (rfl)
@[simp] theorem getB_lst {xs : List D} : (getB (some (.lst xs) :: r) 0 k) = (k (.lst xs)) := (rfl)
@[simp] theorem getL_lst {xs : List D} : (getL (some (.lst xs) :: r) 0 k) = (k (.lst xs)) := (rfl)
@[simp] theorem getV_none  : (getV (some (.none) :: r) 0 k) = (k (.none)) := (rfl)
@[simp] theorem getB_none  : (getB (some (.none) :: r) 0 k) = (k (.none)) := (rfl)
@[simp] theorem getL_none  : (getL (some (.none) :: r) 0 k) = (k (.none)) := (rfl)
@[simp] theorem getV_obj {c : Nat} {fs : List D} : (getV (some (.obj c fs) :: r) 0 k) = (k (.obj c fs)) := (rfl)
@[simp] theorem getB_obj {c : Nat} {fs : List D} : (getB (some (.obj c fs) :: r) 0 k) = (k (.obj c fs)) := (rfl)
@[simp] theorem getL_obj {c : Nat} {fs : List D} : (getL (some (.obj c fs) :: r) 0 k) = (k (.obj c fs)) := (rfl)
@[simp] theorem getV_ptr {a : Nat} : (getV (some (.ptr a) :: r) 0 k) = (k (.ptr a)) := (rfl)
@[simp] theorem getB_ptr {a : Nat} : (getB (some (.ptr a) :: r) 0 k) = (k (.ptr a)) := (rfl)
@[simp] theorem getL_ptr {a : Nat} : (getL (some (.ptr a) :: r) 0 k) = (k (.ptr a)) := (rfl)
@[simp] theorem getV_scr {ns : List Int} : (getV (some (.scr ns) :: r) 0 k) = (k (.scr ns)) := (rfl)
@[simp] theorem getB_scr {ns : List Int} : (getB (some (.scr ns) :: r) 0 k) = (k (.scr ns)) := (rfl)
@[simp] theorem getL_scr {ns : List Int} : (getL (some (.scr ns) :: r) 0 k) = (k (.scr ns)) := (rfl)
@[simp] theorem getV_dct {kvs : List (D × D)} : (getV (some (.dct kvs) :: r) 0 k) = (k (.dct kvs)) := (rfl)
@[simp] theorem getB_dct {kvs : List (D × D)} : (getB (some (.dct kvs) :: r) 0 k) = (k (.dct kvs)) := (rfl)
@[simp] theorem getL_dct {kvs : List (D × D)} : (getL (some (.dct kvs) :: r) 0 k) = (k (.dct kvs)) := (rfl)
@[simp] theorem getV_cls {c : Nat} : (getV (some (.cls c) :: r) 0 k) = (k (.cls c)) := (rfl)
@[simp] theorem getB_cls {c : Nat} : (getB (some (.cls c) :: r) 0 k) = (k (.cls c)) := (rfl)
@[simp] theorem getL_cls {c : Nat} : (getL (some (.cls c) :: r) 0 k) = (k (.cls c)) := (rfl)
@[simp] theorem getV_exc {c : Nat} {fs : List D} : (getV (some (.exc c fs) :: r) 0 k) = (k (.exc c fs)) := (rfl)
@[simp] theorem getB_exc {c : Nat} {fs : List D} : (getB (some (.exc c fs) :: r) 0 k) = (k (.exc c fs)) := (rfl)
@[simp] theorem getL_exc {c : Nat} {fs : List D} : (getL (some (.exc c fs) :: r) 0 k) = (k (.exc c fs)) := (rfl)
@[simp] theorem getV_sd {l : List (Str × Int)} : (getV (some (.sd l) :: r) 0 k) = (k (.sd l)) := (rfl)
@[simp] theorem getB_sd {l : List (Str × Int)} : (getB (some (.sd l) :: r) 0 k) = (k (.sd l)) := (rfl)
@[simp] theorem getL_sd {l : List (Str × Int)} : (getL (some (.sd l) :: r) 0 k) = (k (.sd l)) := (rfl)
@[simp] theorem getV_succ {x : Option D} {n : Nat} : (getV (x :: r) (n + 1) k) = (getV r n k) := (rfl)
@[simp] theorem getB_succ {x : Option D} {n : Nat} : (getB (x :: r) (n + 1) k) = (getB r n k) := (rfl)
@[simp] theorem getL_succ {x : Option D} {n : Nat} : (getL (x :: r) (n + 1) k) = (getL r n k) := (rfl)
@[simp] theorem getB_own {xs : List D} : (getB (some (.own xs) :: r) 0 k) = (k (.lst xs)) := (rfl)
@[simp] theorem getB_bor {xs : List D} : (getB (some (.bor xs) :: r) 0 k) = (k (.lst xs)) := (rfl)
@[simp] theorem getL_own {xs : List D} : (getL (some (.own xs) :: r) 0 k) = (k (.bor xs)) := (rfl)
@[simp] theorem getL_bor {xs : List D} : (getL (some (.bor xs) :: r) 0 k) = (k (.bor xs)) := (rfl)
@[simp] theorem bin_add {i j : Int} : (binD .add (.int i) (.int j) k) = (k (.int (i + j))) := (rfl)
@[simp] theorem bin_sub {i j : Int} : (binD .sub (.int i) (.int j) k) = (k (.int (i - j))) := (rfl)
@[simp] theorem bin_mul {i j : Int} : (binD .mul (.int i) (.int j) k) = (mulOk i j ∧ k (.int (i * j))) := (rfl)
@[simp] theorem bin_fdiv {i j : Int} : (binD .fdiv (.int i) (.int j) k) = (divOk j ∧ k (.int (i / j))) := (rfl)
@[simp] theorem bin_mod {i j : Int} : (binD .mod (.int i) (.int j) k) = (0 < j ∧ k (.int (i % j))) := (rfl)
@[simp] theorem bin_pow {i j : Int} : (binD .pow (.int i) (.int j) k) = (powOk i j ∧ k (.int (i ^ j.toNat))) := (rfl)
@[simp] theorem bin_adds {x y : Str} : (binD .add (.str x) (.str y) k) = (x.length + y.length ≤ sl ∧ k (.str (x ++ y))) := (rfl)
@[simp] theorem bin_addt {xs ys : List D} : (binD .add (.tup xs) (.tup ys) k) = (xs.length + ys.length ≤ sl ∧ k (.tup (xs ++ ys))) := (rfl)
@[simp] theorem bin_addl {xs ys : List D} : (binD .add (.lst xs) (.lst ys) k) = (xs.length + ys.length ≤ sl ∧ k (.lst (xs ++ ys))) := (rfl)
@[simp] theorem bin_muls {x : Str} {i : Int} : (binD .mul (.str x) (.int i) k) = ((0 ≤ i ∧ i ≤ 1000 ∧ x.length ≤ 1000) ∧ k (.str (Txt.mul x i))) := (rfl)
@[simp] theorem bin_mult {xs : List D} {i : Int} : (binD .mul (.tup xs) (.int i) k) = ((1 ≤ i ∧ i ≤ 1000 ∧ xs ≠ [] ∧ xs.length ≤ 1000) ∧ k (.tup (List.replicate i.toNat xs).flatten)) := (rfl)
@[simp] theorem bin_mull {xs : List D} {i : Int} : (binD .mul (.lst xs) (.int i) k) = ((0 ≤ i ∧ i < 2 ^ 62 ∧ xs.length * i.toNat ≤ sl) ∧ k (.lst (List.replicate i.toNat xs).flatten)) := (rfl)
@[simp] theorem cmpX_eq {o : Co} {a b : D} : (cmpX P F Γ o a b S QT E) = (cmpD o a b fun c => QT c S) := (rfl)
@[simp] theorem cmp_eq {a b : D} : (cmpD .eq a b kb) = (ob (eqD a b) kb) := (rfl)
@[simp] theorem cmp_ne {a b : D} : (cmpD .ne a b kb) = (ob (eqD a b) fun c => kb (!c)) := (rfl)
@[simp] theorem cmp_lt {i j : Int} : (cmpD .lt (.int i) (.int j) kb) = (kb (decide (i < j))) := (rfl)
@[simp] theorem cmp_gt {i j : Int} : (cmpD .gt (.int i) (.int j) kb) = (kb (decide (j < i))) := (rfl)
@[simp] theorem cmp_le {i j : Int} : (cmpD .le (.int i) (.int j) kb) = (kb (decide (i ≤ j))) := (rfl)
@[simp] theorem cmp_ge {i j : Int} : (cmpD .ge (.int i) (.int j) kb) = (kb (decide (j ≤ i))) := (rfl)
@[simp] theorem cmp_is_int {i : Int} : (cmpD .isn (.int i) .none kb) = (kb false) := (rfl)
@[simp] theorem cmp_isnt_int {i : Int} : (cmpD .notn (.int i) .none kb) = (kb true) := (rfl)
@[simp] theorem cmp_is_bool {b : Bool} : (cmpD .isn (.bool b) .none kb) = (kb false) := (rfl)
@[simp] theorem cmp_isnt_bool {b : Bool} : (cmpD .notn (.bool b) .none kb) = (kb true) := (rfl)
@[simp] theorem cmp_is_str {x : Str} : (cmpD .isn (.str x) .none kb) = (kb false) := (rfl)
@[simp] theorem cmp_isnt_str {x : Str} : (cmpD .notn (.str x) .none kb) = (kb true) := (rfl)
@[simp] theorem cmp_is_tup {xs : List D} : (cmpD .isn (.tup xs) .none kb) = (kb false) := (rfl)
@[simp] theorem cmp_isnt_tup {xs : List D} : (cmpD .notn (.tup xs) .none kb) = (kb true) := (rfl)
@[simp] theorem cmp_is_lst {xs : List D} : (cmpD .isn (.lst xs) .none kb) = (kb false) := (rfl)
@[simp] theorem cmp_isnt_lst {xs : List D} : (cmpD .notn (.lst xs) .none kb) = (kb true) := (rfl)
@[simp] theorem cmp_is_none  : (cmpD .isn (.none) .none kb) = (kb true) := (rfl)
@[simp] theorem cmp_isnt_none  : (cmpD .notn (.none) .none kb) = (kb false) := (rfl)
@[simp] theorem cmp_is_obj {c : Nat} {fs : List D} : (cmpD .isn (.obj c fs) .none kb) = (kb false) := (rfl)
@[simp] theorem cmp_isnt_obj {c : Nat} {fs : List D} : (cmpD .notn (.obj c fs) .none kb) = (kb true) := (rfl)
@[simp] theorem cmp_is_ptr {a : Nat} : (cmpD .isn (.ptr a) .none kb) = (kb false) := (rfl)
@[simp] theorem cmp_isnt_ptr {a : Nat} : (cmpD .notn (.ptr a) .none kb) = (kb true) := (rfl)
@[simp] theorem cmp_is_scr {ns : List Int} : (cmpD .isn (.scr ns) .none kb) = (kb false) := (rfl)
@[simp] theorem cmp_isnt_scr {ns : List Int} : (cmpD .notn (.scr ns) .none kb) = (kb true) := (rfl)
@[simp] theorem cmp_is_dct {kvs : List (D × D)} : (cmpD .isn (.dct kvs) .none kb) = (kb false) := (rfl)
@[simp] theorem cmp_isnt_dct {kvs : List (D × D)} : (cmpD .notn (.dct kvs) .none kb) = (kb true) := (rfl)
@[simp] theorem cmp_is_cls {c : Nat} : (cmpD .isn (.cls c) .none kb) = (kb false) := (rfl)
@[simp] theorem cmp_isnt_cls {c : Nat} : (cmpD .notn (.cls c) .none kb) = (kb true) := (rfl)
@[simp] theorem cmp_is_clo {c : Nat} : (cmpD .isn (.clo c) .none kb) = (kb false) := (rfl)
@[simp] theorem cmp_isnt_clo {c : Nat} : (cmpD .notn (.clo c) .none kb) = (kb true) := (rfl)
@[simp] theorem cmp_is_exc {c : Nat} {fs : List D} : (cmpD .isn (.exc c fs) .none kb) = (kb false) := (rfl)
@[simp] theorem cmp_isnt_exc {c : Nat} {fs : List D} : (cmpD .notn (.exc c fs) .none kb) = (kb true) := (rfl)
@[simp] theorem cmp_is_sd {l : List (Str × Int)} : (cmpD .isn (.sd l) .none kb) = (kb false) := (rfl)
@[simp] theorem cmp_isnt_sd {l : List (Str × Int)} : (cmpD .notn (.sd l) .none kb) = (kb true) := (rfl)
@[simp] theorem cmp_isb {x y : Bool} : (cmpD .isn (.bool x) (.bool y) kb) = (kb (x == y)) := (rfl)
@[simp] theorem cmp_notb {x y : Bool} : (cmpD .notn (.bool x) (.bool y) kb) = (kb (!(x == y))) := (rfl)
@[simp] theorem cmp_in_l {a : D} {ys : List D} : (cmpD .in_ a (.lst ys) kb) = (ob (inD a ys) kb) := by cases a <;> rfl
@[simp] theorem cmp_in_t {a : D} {ys : List D} : (cmpD .in_ a (.tup ys) kb) = (ob (inD a ys) kb) := by cases a <;> rfl
@[simp] theorem cmp_in_s {x y : Str} : (cmpD .in_ (.str x) (.str y) kb) = (kb (subS x y)) := (rfl)
@[simp] theorem cmp_nin_l {a : D} {ys : List D} : (cmpD .nin a (.lst ys) kb) = (ob (inD a ys) fun c => kb (!c)) := by cases a <;> rfl
@[simp] theorem cmp_nin_t {a : D} {ys : List D} : (cmpD .nin a (.tup ys) kb) = (ob (inD a ys) fun c => kb (!c)) := by cases a <;> rfl
@[simp] theorem cmp_nin_s {x y : Str} : (cmpD .nin (.str x) (.str y) kb) = (kb (!subS x y)) := (rfl)
@[simp] theorem ob_some {b : Bool} : (ob (some b) kb) = (kb b) := (rfl)
@[simp] theorem oi_some {xs : List Int} {ki : List Int → Prop} : (oi (some xs) ki) = (ki xs) := (rfl)
@[simp] theorem obs_some {xs : List Bool} {ki : List Bool → Prop} : (obs (some xs) ki) = (ki xs) := (rfl)
@[simp] theorem oss_some {xs : List Str} {ki : List Str → Prop} : (oss (some xs) ki) = (ki xs) := (rfl)
@[simp] theorem onat_some {n : Nat} {ki : Nat → Prop} : (onat (some n) ki) = (ki n) := (rfl)
@[simp] theorem tru_bool {b : Bool} : (truX P F Γ (.bool b) S QT E) = (QT b S) := (rfl)
@[simp] theorem tru_int {i : Int} : (truX P F Γ (.int i) S QT E) = (QT (i != 0) S) := (rfl)
@[simp] theorem tru_tup {xs : List D} : (truX P F Γ (.tup xs) S QT E) = (QT (!xs.isEmpty) S) := (rfl)
@[simp] theorem tru_lst {xs : List D} : (truX P F Γ (.lst xs) S QT E) = (QT (!xs.isEmpty) S) := (rfl)
@[simp] theorem tru_none  : (truX P F Γ .none S QT E) = (QT false S) := (rfl)
@[simp] theorem tru_str {x : Str} : (truX P F Γ (.str x) S QT E) = (x.length ≤ sl ∧ QT (x.length != 0) S) := (rfl)
@[simp] theorem items_lst {xs : List D} {kl : List D → Prop} : (itemsD (.lst xs) kl) = (kl xs) := (rfl)
@[simp] theorem items_tup {xs : List D} {kl : List D → Prop} : (itemsD (.tup xs) kl) = (kl xs) := (rfl)
@[simp] theorem items_str {x : Str} {kl : List D → Prop} : (itemsD (.str x) kl) = (kl (x.cps.toList.map fun c => .str ⟨#[c]⟩)) := (rfl)
@[simp] theorem rng1D_int {j : Int} {kl : List D → Prop} : (rng1D (.int j) kl) = ((-(2 ^ 62) ≤ j ∧ j < 2 ^ 62) ∧ kl ((List.range j.toNat).map fun (k : Nat) => D.int (0 + (k : Int)))) := (rfl)
@[simp] theorem rng2D_int {i j : Int} {kl : List D → Prop} : (rng2D (.int i) (.int j) kl) = ((-(2 ^ 62) ≤ i ∧ i < 2 ^ 62 ∧ -(2 ^ 62) ≤ j ∧ j < 2 ^ 62) ∧ kl ((List.range (j - i).toNat).map fun (k : Nat) => D.int (i + (k : Int)))) := (rfl)
def oD {α : Type} (o : Option α) (k : α → Prop) : Prop := match o with
  | some v => k v
  | none => False
@[simp] theorem oD_some {α : Type} {v : α} {k : α → Prop} : oD (some v) k = k v := (rfl)
@[simp] theorem ixS_lst {xs : List D} {i : Int} : (ixS (.lst xs) (.int i) S k) = (oD (L2.atI xs i) k) := by simp only [ixS, ixD, oD]; first | rfl | (split <;> simp_all)
@[simp] theorem ixS_tup {xs : List D} {i : Int} : (ixS (.tup xs) (.int i) S k) = (oD (L2.atI xs i) k) := by simp only [ixS, ixD, oD]; first | rfl | (split <;> simp_all)
@[simp] theorem ixS_scr {xs : List Int} {i : Int} : (ixS (.scr xs) (.int i) S k) = (oD (L2.atI xs i) fun v => k (.int v)) := by simp only [ixS, ixD, oD]; first | rfl | (split <;> simp_all)
@[simp] theorem ixS_str {x : Str} {i : Int} : (ixS (.str x) (.int i) S k) = (x.length ≤ sl ∧ oD (L2.atI x.cps.toList i) fun c => k (.str ⟨#[c]⟩)) := by simp only [ixS, ixD, oD]; first | rfl | (split <;> simp_all)
theorem ixS_ptr {a : Nat} {xs : List D} {i : Int} (h : S a = some (.lst xs)) : ixS (.ptr a) (.int i) S k = oD (L2.atI xs i) k := by
  simp only [ixS, h, ixD, oD]; first | rfl | (split <;> simp_all)
@[simp] theorem sl_lst {xs : List D} {lo hi : Option Int} : (slD (.lst xs) lo hi k) = (k (.lst (cut xs lo hi))) := (rfl)
@[simp] theorem sl_tup {xs : List D} {lo hi : Option Int} : (slD (.tup xs) lo hi k) = (k (.tup (cut xs lo hi))) := (rfl)
@[simp] theorem sl_scr {xs : List Int} {lo hi : Option Int} : (slD (.scr xs) lo hi k) = (k (.lst ((cut xs lo hi).map .int))) := (rfl)
@[simp] theorem rev_lst {xs : List D} : (revD (.lst xs) k) = (k (.lst xs.reverse)) := (rfl)
@[simp] theorem biX_sum {ds : List D} : (biX P F Γ .sum ds S Q E) = (biD .sum ds fun r => Q r S) := (rfl)
@[simp] theorem biX_min {ds : List D} : (biX P F Γ .min ds S Q E) = (biD .min ds fun r => Q r S) := (rfl)
@[simp] theorem biX_max {ds : List D} : (biX P F Γ .max ds S Q E) = (biD .max ds fun r => Q r S) := (rfl)
@[simp] theorem biX_all {ds : List D} : (biX P F Γ .all ds S Q E) = (biD .all ds fun r => Q r S) := (rfl)
@[simp] theorem biX_any {ds : List D} : (biX P F Γ .any ds S Q E) = (biD .any ds fun r => Q r S) := (rfl)
@[simp] theorem biX_tuple {ds : List D} : (biX P F Γ .tuple ds S Q E) = (biD .tuple ds fun r => Q r S) := (rfl)
@[simp] theorem biX_list {ds : List D} : (biX P F Γ .list ds S Q E) = (biD .list ds fun r => Q r S) := (rfl)
@[simp] theorem biX_sorted {ds : List D} : (biX P F Γ .sorted ds S Q E) = (biD .sorted ds fun r => Q r S) := (rfl)
@[simp] theorem biX_str {ds : List D} : (biX P F Γ .str ds S Q E) = (biD .str ds fun r => Q r S) := (rfl)
@[simp] theorem biX_int {ds : List D} : (biX P F Γ .int ds S Q E) = (biD .int ds fun r => Q r S) := (rfl)
@[simp] theorem biX_bool {ds : List D} : (biX P F Γ .bool ds S Q E) = (biD .bool ds fun r => Q r S) := (rfl)
@[simp] theorem biX_abs {ds : List D} : (biX P F Γ .abs ds S Q E) = (biD .abs ds fun r => Q r S) := (rfl)
@[simp] theorem biX_divmod {ds : List D} : (biX P F Γ .divmod ds S Q E) = (biD .divmod ds fun r => Q r S) := (rfl)
@[simp] theorem biX_repr {ds : List D} : (biX P F Γ .repr ds S Q E) = (biD .repr ds fun r => Q r S) := (rfl)
@[simp] theorem len_lst {xs : List D} : (biX P F Γ .len [.lst xs] S Q E) = (Q (.int xs.length) S) := (rfl)
@[simp] theorem len_tup {xs : List D} : (biX P F Γ .len [.tup xs] S Q E) = (Q (.int xs.length) S) := (rfl)
@[simp] theorem len_scr {xs : List Int} : (biX P F Γ .len [.scr xs] S Q E) = (Q (.int xs.length) S) := (rfl)
@[simp] theorem len_str {x : Str} : (biX P F Γ .len [.str x] S Q E) = (x.length ≤ sl ∧ Q (.int x.length) S) := (rfl)
@[simp] theorem bi_sorted {d : D} : (biD .sorted [d] k) = (srtD d k) := (rfl)
@[simp] theorem bi_sum {xs : List D} : (biD .sum [.lst xs] k) = (oi (intsD xs) fun ns => k (.int ns.sum)) := (rfl)
@[simp] theorem bi_min {xs : List D} : (biD .min [.lst xs] k) = (oi (intsD xs) fun ns => ns ≠ [] ∧ k (.int (minI ns))) := (rfl)
@[simp] theorem bi_max {xs : List D} : (biD .max [.lst xs] k) = (oi (intsD xs) fun ns => ns ≠ [] ∧ k (.int (maxI ns))) := (rfl)
@[simp] theorem bi_min2 {i j : Int} : (biD .min [.int i, .int j] k) = (k (.int (if j < i then j else i))) := (rfl)
@[simp] theorem bi_max2 {i j : Int} : (biD .max [.int i, .int j] k) = (k (.int (if j > i then j else i))) := (rfl)
@[simp] theorem bi_all {xs : List D} : (biD .all [.lst xs] k) = (obs (boolsD xs) fun bs => k (.bool (bs.all id))) := (rfl)
@[simp] theorem bi_any {xs : List D} : (biD .any [.lst xs] k) = (obs (boolsD xs) fun bs => k (.bool (bs.any id))) := (rfl)
@[simp] theorem bi_tup {xs : List D} : (biD .tuple [.lst xs] k) = (k (.tup xs)) := (rfl)
@[simp] theorem bi_tup2 {xs : List D} : (biD .tuple [.tup xs] k) = (k (.tup xs)) := (rfl)
@[simp] theorem bi_list {xs : List D} : (biD .list [.lst xs] k) = (k (.lst xs)) := (rfl)
@[simp] theorem bi_list2 {xs : List D} : (biD .list [.tup xs] k) = (k (.lst xs)) := (rfl)
@[simp] theorem bi_str {i : Int} : (biD .str [.int i] k) = (i.natAbs.log2 < 1920 ∧ k (.str (toString i))) := (rfl)
@[simp] theorem bi_int {i : Int} : (biD .int [.int i] k) = (k (.int i)) := (rfl)
@[simp] theorem bi_intb {b : Bool} : (biD .int [.bool b] k) = (k (.int (if b then 1 else 0))) := (rfl)
@[simp] theorem bi_abs {i : Int} : (biD .abs [.int i] k) = (k (.int (if i < 0 then -i else i))) := (rfl)
@[simp] theorem bi_divmod {i j : Int} : (biD .divmod [.int i, .int j] k) = (divOk j ∧ k (.tup [.int (i / j), .int (i % j)])) := (rfl)
@[simp] theorem bi_repr {d : D} : (biD .repr [d] k) = (reprD d k) := (rfl)
@[simp] theorem bi_boolb {b : Bool} : (biD .bool [.bool b] k) = (k (.bool b)) := (rfl)
@[simp] theorem mt_index_l {x : D} {xs : List D} : (mtD .index (.lst xs) [x] k) = (onat (idxD x xs) fun n => k (.int n)) := (rfl)
@[simp] theorem mt_index_t {x : D} {xs : List D} : (mtD .index (.tup xs) [x] k) = (onat (idxF x xs) fun n => k (.int n)) := (rfl)
@[simp] theorem mt_count {x : D} {xs : List D} : (mtD .count (.lst xs) [x] k) = (onat (countD x xs) fun n => k (.int n)) := (rfl)
@[simp] theorem mtAble_index_int {i : Int} : (mtAble .index (.int i)) = (false) := (rfl)
@[simp] theorem mtAble_count_int {i : Int} : (mtAble .count (.int i)) = (false) := (rfl)
@[simp] theorem mtAble_join_int {i : Int} : (mtAble .join (.int i)) = (false) := (rfl)
@[simp] theorem mtAble_split_int {i : Int} : (mtAble .split (.int i)) = (false) := (rfl)
@[simp] theorem mtAble_index_bool {b : Bool} : (mtAble .index (.bool b)) = (false) := (rfl)
@[simp] theorem mtAble_count_bool {b : Bool} : (mtAble .count (.bool b)) = (false) := (rfl)
@[simp] theorem mtAble_join_bool {b : Bool} : (mtAble .join (.bool b)) = (false) := (rfl)
@[simp] theorem mtAble_split_bool {b : Bool} : (mtAble .split (.bool b)) = (false) := (rfl)
@[simp] theorem mtAble_index_str {x : Str} : (mtAble .index (.str x)) = (false) := (rfl)
@[simp] theorem mtAble_count_str {x : Str} : (mtAble .count (.str x)) = (false) := (rfl)
@[simp] theorem mtAble_join_str {x : Str} : (mtAble .join (.str x)) = (true) := (rfl)
@[simp] theorem mtAble_split_str {x : Str} : (mtAble .split (.str x)) = (true) := (rfl)
@[simp] theorem mtAble_index_tup {xs : List D} : (mtAble .index (.tup xs)) = (true) := (rfl)
@[simp] theorem mtAble_count_tup {xs : List D} : (mtAble .count (.tup xs)) = (false) := (rfl)
@[simp] theorem mtAble_join_tup {xs : List D} : (mtAble .join (.tup xs)) = (false) := (rfl)
@[simp] theorem mtAble_split_tup {xs : List D} : (mtAble .split (.tup xs)) = (false) := (rfl)
@[simp] theorem mtAble_index_lst {xs : List D} : (mtAble .index (.lst xs)) = (true) := (rfl)
@[simp] theorem mtAble_count_lst {xs : List D} : (mtAble .count (.lst xs)) = (true) := (rfl)
@[simp] theorem mtAble_join_lst {xs : List D} : (mtAble .join (.lst xs)) = (false) := (rfl)
@[simp] theorem mtAble_split_lst {xs : List D} : (mtAble .split (.lst xs)) = (false) := (rfl)
@[simp] theorem mtAble_index_none  : (mtAble .index (.none)) = (false) := (rfl)
@[simp] theorem mtAble_count_none  : (mtAble .count (.none)) = (false) := (rfl)
@[simp] theorem mtAble_join_none  : (mtAble .join (.none)) = (false) := (rfl)
@[simp] theorem mtAble_split_none  : (mtAble .split (.none)) = (false) := (rfl)
@[simp] theorem mtAble_index_obj {c : Nat} {fs : List D} : (mtAble .index (.obj c fs)) = (false) := (rfl)
@[simp] theorem mtAble_count_obj {c : Nat} {fs : List D} : (mtAble .count (.obj c fs)) = (false) := (rfl)
@[simp] theorem mtAble_join_obj {c : Nat} {fs : List D} : (mtAble .join (.obj c fs)) = (false) := (rfl)
@[simp] theorem mtAble_split_obj {c : Nat} {fs : List D} : (mtAble .split (.obj c fs)) = (false) := (rfl)
@[simp] theorem mtAble_index_ptr {a : Nat} : (mtAble .index (.ptr a)) = (false) := (rfl)
@[simp] theorem mtAble_count_ptr {a : Nat} : (mtAble .count (.ptr a)) = (false) := (rfl)
@[simp] theorem mtAble_join_ptr {a : Nat} : (mtAble .join (.ptr a)) = (false) := (rfl)
@[simp] theorem mtAble_split_ptr {a : Nat} : (mtAble .split (.ptr a)) = (false) := (rfl)
@[simp] theorem mtAble_index_scr {ns : List Int} : (mtAble .index (.scr ns)) = (false) := (rfl)
@[simp] theorem mtAble_count_scr {ns : List Int} : (mtAble .count (.scr ns)) = (false) := (rfl)
@[simp] theorem mtAble_join_scr {ns : List Int} : (mtAble .join (.scr ns)) = (false) := (rfl)
@[simp] theorem mtAble_split_scr {ns : List Int} : (mtAble .split (.scr ns)) = (false) := (rfl)
@[simp] theorem mtAble_index_dct {kvs : List (D × D)} : (mtAble .index (.dct kvs)) = (false) := (rfl)
@[simp] theorem mtAble_count_dct {kvs : List (D × D)} : (mtAble .count (.dct kvs)) = (false) := (rfl)
@[simp] theorem mtAble_join_dct {kvs : List (D × D)} : (mtAble .join (.dct kvs)) = (false) := (rfl)
@[simp] theorem mtAble_split_dct {kvs : List (D × D)} : (mtAble .split (.dct kvs)) = (false) := (rfl)
@[simp] theorem mtAble_index_cls {c : Nat} : (mtAble .index (.cls c)) = (false) := (rfl)
@[simp] theorem mtAble_count_cls {c : Nat} : (mtAble .count (.cls c)) = (false) := (rfl)
@[simp] theorem mtAble_join_cls {c : Nat} : (mtAble .join (.cls c)) = (false) := (rfl)
@[simp] theorem mtAble_split_cls {c : Nat} : (mtAble .split (.cls c)) = (false) := (rfl)
@[simp] theorem mtAble_index_clo {c : Nat} : (mtAble .index (.clo c)) = (false) := (rfl)
@[simp] theorem mtAble_count_clo {c : Nat} : (mtAble .count (.clo c)) = (false) := (rfl)
@[simp] theorem mtAble_join_clo {c : Nat} : (mtAble .join (.clo c)) = (false) := (rfl)
@[simp] theorem mtAble_split_clo {c : Nat} : (mtAble .split (.clo c)) = (false) := (rfl)
@[simp] theorem mtAble_index_exc {c : Nat} {fs : List D} : (mtAble .index (.exc c fs)) = (false) := (rfl)
@[simp] theorem mtAble_count_exc {c : Nat} {fs : List D} : (mtAble .count (.exc c fs)) = (false) := (rfl)
@[simp] theorem mtAble_join_exc {c : Nat} {fs : List D} : (mtAble .join (.exc c fs)) = (false) := (rfl)
@[simp] theorem mtAble_split_exc {c : Nat} {fs : List D} : (mtAble .split (.exc c fs)) = (false) := (rfl)
@[simp] theorem mtAble_index_sd {l : List (Str × Int)} : (mtAble .index (.sd l)) = (false) := (rfl)
@[simp] theorem mtAble_count_sd {l : List (Str × Int)} : (mtAble .count (.sd l)) = (false) := (rfl)
@[simp] theorem mtAble_join_sd {l : List (Str × Int)} : (mtAble .join (.sd l)) = (false) := (rfl)
@[simp] theorem mtAble_split_sd {l : List (Str × Int)} : (mtAble .split (.sd l)) = (false) := (rfl)
@[simp] theorem clsIn_int {i : Int} : (clsIn P (.int i)) = (true) := (rfl)
@[simp] theorem isAble_int {i : Int} : (isAble (.int i)) = (true) := (rfl)
@[simp] theorem tyD_int_int {i : Int} : (tyD (.int i) .int) = (true) := (rfl)
@[simp] theorem tyD_int_bool {i : Int} : (tyD (.int i) .bool) = (false) := (rfl)
@[simp] theorem tyD_int_str {i : Int} : (tyD (.int i) .str) = (false) := (rfl)
@[simp] theorem tyD_int_tuple {i : Int} : (tyD (.int i) .tuple) = (false) := (rfl)
@[simp] theorem tyD_int_list {i : Int} : (tyD (.int i) .list) = (false) := (rfl)
@[simp] theorem tyD_int_dict {i : Int} : (tyD (.int i) .dict) = (false) := (rfl)
@[simp] theorem tyD_int_cls {i : Int} {cc : Nat} : (tyD (.int i) (.cls cc)) = (false) := (rfl)
@[simp] theorem clsIn_bool {b : Bool} : (clsIn P (.bool b)) = (true) := (rfl)
@[simp] theorem isAble_bool {b : Bool} : (isAble (.bool b)) = (true) := (rfl)
@[simp] theorem tyD_bool_int {b : Bool} : (tyD (.bool b) .int) = (true) := (rfl)
@[simp] theorem tyD_bool_bool {b : Bool} : (tyD (.bool b) .bool) = (true) := (rfl)
@[simp] theorem tyD_bool_str {b : Bool} : (tyD (.bool b) .str) = (false) := (rfl)
@[simp] theorem tyD_bool_tuple {b : Bool} : (tyD (.bool b) .tuple) = (false) := (rfl)
@[simp] theorem tyD_bool_list {b : Bool} : (tyD (.bool b) .list) = (false) := (rfl)
@[simp] theorem tyD_bool_dict {b : Bool} : (tyD (.bool b) .dict) = (false) := (rfl)
@[simp] theorem tyD_bool_cls {b : Bool} {cc : Nat} : (tyD (.bool b) (.cls cc)) = (false) := (rfl)
@[simp] theorem clsIn_str {x : Str} : (clsIn P (.str x)) = (true) := (rfl)
@[simp] theorem isAble_str {x : Str} : (isAble (.str x)) = (true) := (rfl)
@[simp] theorem tyD_str_int {x : Str} : (tyD (.str x) .int) = (false) := (rfl)
@[simp] theorem tyD_str_bool {x : Str} : (tyD (.str x) .bool) = (false) := (rfl)
@[simp] theorem tyD_str_str {x : Str} : (tyD (.str x) .str) = (true) := (rfl)
@[simp] theorem tyD_str_tuple {x : Str} : (tyD (.str x) .tuple) = (false) := (rfl)
@[simp] theorem tyD_str_list {x : Str} : (tyD (.str x) .list) = (false) := (rfl)
@[simp] theorem tyD_str_dict {x : Str} : (tyD (.str x) .dict) = (false) := (rfl)
@[simp] theorem tyD_str_cls {x : Str} {cc : Nat} : (tyD (.str x) (.cls cc)) = (false) := (rfl)
@[simp] theorem clsIn_tup {xs : List D} : (clsIn P (.tup xs)) = (true) := (rfl)
@[simp] theorem isAble_tup {xs : List D} : (isAble (.tup xs)) = (true) := (rfl)
@[simp] theorem tyD_tup_int {xs : List D} : (tyD (.tup xs) .int) = (false) := (rfl)
@[simp] theorem tyD_tup_bool {xs : List D} : (tyD (.tup xs) .bool) = (false) := (rfl)
@[simp] theorem tyD_tup_str {xs : List D} : (tyD (.tup xs) .str) = (false) := (rfl)
@[simp] theorem tyD_tup_tuple {xs : List D} : (tyD (.tup xs) .tuple) = (true) := (rfl)
@[simp] theorem tyD_tup_list {xs : List D} : (tyD (.tup xs) .list) = (false) := (rfl)
@[simp] theorem tyD_tup_dict {xs : List D} : (tyD (.tup xs) .dict) = (false) := (rfl)
@[simp] theorem tyD_tup_cls {xs : List D} {cc : Nat} : (tyD (.tup xs) (.cls cc)) = (false) := (rfl)
@[simp] theorem clsIn_lst {xs : List D} : (clsIn P (.lst xs)) = (true) := (rfl)
@[simp] theorem isAble_lst {xs : List D} : (isAble (.lst xs)) = (true) := (rfl)
@[simp] theorem tyD_lst_int {xs : List D} : (tyD (.lst xs) .int) = (false) := (rfl)
@[simp] theorem tyD_lst_bool {xs : List D} : (tyD (.lst xs) .bool) = (false) := (rfl)
@[simp] theorem tyD_lst_str {xs : List D} : (tyD (.lst xs) .str) = (false) := (rfl)
@[simp] theorem tyD_lst_tuple {xs : List D} : (tyD (.lst xs) .tuple) = (false) := (rfl)
@[simp] theorem tyD_lst_list {xs : List D} : (tyD (.lst xs) .list) = (true) := (rfl)
@[simp] theorem tyD_lst_dict {xs : List D} : (tyD (.lst xs) .dict) = (false) := (rfl)
@[simp] theorem tyD_lst_cls {xs : List D} {cc : Nat} : (tyD (.lst xs) (.cls cc)) = (false) := (rfl)
@[simp] theorem clsIn_none  : (clsIn P (.none)) = (true) := (rfl)
@[simp] theorem isAble_none  : (isAble (.none)) = (true) := (rfl)
@[simp] theorem tyD_none_int  : (tyD (.none) .int) = (false) := (rfl)
@[simp] theorem tyD_none_bool  : (tyD (.none) .bool) = (false) := (rfl)
@[simp] theorem tyD_none_str  : (tyD (.none) .str) = (false) := (rfl)
@[simp] theorem tyD_none_tuple  : (tyD (.none) .tuple) = (false) := (rfl)
@[simp] theorem tyD_none_list  : (tyD (.none) .list) = (false) := (rfl)
@[simp] theorem tyD_none_dict  : (tyD (.none) .dict) = (false) := (rfl)
@[simp] theorem tyD_none_cls  {cc : Nat} : (tyD (.none) (.cls cc)) = (false) := (rfl)
@[simp] theorem isAble_obj {c : Nat} {fs : List D} : (isAble (.obj c fs)) = (true) := (rfl)
@[simp] theorem tyD_obj_int {c : Nat} {fs : List D} : (tyD (.obj c fs) .int) = (false) := (rfl)
@[simp] theorem tyD_obj_bool {c : Nat} {fs : List D} : (tyD (.obj c fs) .bool) = (false) := (rfl)
@[simp] theorem tyD_obj_str {c : Nat} {fs : List D} : (tyD (.obj c fs) .str) = (false) := (rfl)
@[simp] theorem tyD_obj_tuple {c : Nat} {fs : List D} : (tyD (.obj c fs) .tuple) = (false) := (rfl)
@[simp] theorem tyD_obj_list {c : Nat} {fs : List D} : (tyD (.obj c fs) .list) = (false) := (rfl)
@[simp] theorem tyD_obj_dict {c : Nat} {fs : List D} : (tyD (.obj c fs) .dict) = (false) := (rfl)
@[simp] theorem tyD_obj_cls {c : Nat} {fs : List D} {cc : Nat} : (tyD (.obj c fs) (.cls cc)) = (c == cc) := (rfl)
@[simp] theorem clsIn_ptr {a : Nat} : (clsIn P (.ptr a)) = (true) := (rfl)
@[simp] theorem isAble_ptr {a : Nat} : (isAble (.ptr a)) = (false) := (rfl)
@[simp] theorem tyD_ptr_int {a : Nat} : (tyD (.ptr a) .int) = (false) := (rfl)
@[simp] theorem tyD_ptr_bool {a : Nat} : (tyD (.ptr a) .bool) = (false) := (rfl)
@[simp] theorem tyD_ptr_str {a : Nat} : (tyD (.ptr a) .str) = (false) := (rfl)
@[simp] theorem tyD_ptr_tuple {a : Nat} : (tyD (.ptr a) .tuple) = (false) := (rfl)
@[simp] theorem tyD_ptr_list {a : Nat} : (tyD (.ptr a) .list) = (false) := (rfl)
@[simp] theorem tyD_ptr_dict {a : Nat} : (tyD (.ptr a) .dict) = (false) := (rfl)
@[simp] theorem tyD_ptr_cls {a : Nat} {cc : Nat} : (tyD (.ptr a) (.cls cc)) = (false) := (rfl)
@[simp] theorem clsIn_scr {ns : List Int} : (clsIn P (.scr ns)) = (true) := (rfl)
@[simp] theorem isAble_scr {ns : List Int} : (isAble (.scr ns)) = (false) := (rfl)
@[simp] theorem tyD_scr_int {ns : List Int} : (tyD (.scr ns) .int) = (false) := (rfl)
@[simp] theorem tyD_scr_bool {ns : List Int} : (tyD (.scr ns) .bool) = (false) := (rfl)
@[simp] theorem tyD_scr_str {ns : List Int} : (tyD (.scr ns) .str) = (false) := (rfl)
@[simp] theorem tyD_scr_tuple {ns : List Int} : (tyD (.scr ns) .tuple) = (false) := (rfl)
@[simp] theorem tyD_scr_list {ns : List Int} : (tyD (.scr ns) .list) = (false) := (rfl)
@[simp] theorem tyD_scr_dict {ns : List Int} : (tyD (.scr ns) .dict) = (false) := (rfl)
@[simp] theorem tyD_scr_cls {ns : List Int} {cc : Nat} : (tyD (.scr ns) (.cls cc)) = (false) := (rfl)
@[simp] theorem clsIn_dct {kvs : List (D × D)} : (clsIn P (.dct kvs)) = (true) := (rfl)
@[simp] theorem isAble_dct {kvs : List (D × D)} : (isAble (.dct kvs)) = (false) := (rfl)
@[simp] theorem tyD_dct_int {kvs : List (D × D)} : (tyD (.dct kvs) .int) = (false) := (rfl)
@[simp] theorem tyD_dct_bool {kvs : List (D × D)} : (tyD (.dct kvs) .bool) = (false) := (rfl)
@[simp] theorem tyD_dct_str {kvs : List (D × D)} : (tyD (.dct kvs) .str) = (false) := (rfl)
@[simp] theorem tyD_dct_tuple {kvs : List (D × D)} : (tyD (.dct kvs) .tuple) = (false) := (rfl)
@[simp] theorem tyD_dct_list {kvs : List (D × D)} : (tyD (.dct kvs) .list) = (false) := (rfl)
@[simp] theorem tyD_dct_dict {kvs : List (D × D)} : (tyD (.dct kvs) .dict) = (true) := (rfl)
@[simp] theorem tyD_dct_cls {kvs : List (D × D)} {cc : Nat} : (tyD (.dct kvs) (.cls cc)) = (false) := (rfl)
@[simp] theorem clsIn_cls {c : Nat} : (clsIn P (.cls c)) = (true) := (rfl)
@[simp] theorem isAble_cls {c : Nat} : (isAble (.cls c)) = (false) := (rfl)
@[simp] theorem tyD_cls_int {c : Nat} : (tyD (.cls c) .int) = (false) := (rfl)
@[simp] theorem tyD_cls_bool {c : Nat} : (tyD (.cls c) .bool) = (false) := (rfl)
@[simp] theorem tyD_cls_str {c : Nat} : (tyD (.cls c) .str) = (false) := (rfl)
@[simp] theorem tyD_cls_tuple {c : Nat} : (tyD (.cls c) .tuple) = (false) := (rfl)
@[simp] theorem tyD_cls_list {c : Nat} : (tyD (.cls c) .list) = (false) := (rfl)
@[simp] theorem tyD_cls_dict {c : Nat} : (tyD (.cls c) .dict) = (false) := (rfl)
@[simp] theorem tyD_cls_cls {c : Nat} {cc : Nat} : (tyD (.cls c) (.cls cc)) = (false) := (rfl)
@[simp] theorem clsIn_clo {c : Nat} : (clsIn P (.clo c)) = (true) := (rfl)
@[simp] theorem isAble_clo {c : Nat} : (isAble (.clo c)) = (false) := (rfl)
@[simp] theorem tyD_clo_int {c : Nat} : (tyD (.clo c) .int) = (false) := (rfl)
@[simp] theorem tyD_clo_bool {c : Nat} : (tyD (.clo c) .bool) = (false) := (rfl)
@[simp] theorem tyD_clo_str {c : Nat} : (tyD (.clo c) .str) = (false) := (rfl)
@[simp] theorem tyD_clo_tuple {c : Nat} : (tyD (.clo c) .tuple) = (false) := (rfl)
@[simp] theorem tyD_clo_list {c : Nat} : (tyD (.clo c) .list) = (false) := (rfl)
@[simp] theorem tyD_clo_dict {c : Nat} : (tyD (.clo c) .dict) = (false) := (rfl)
@[simp] theorem tyD_clo_cls {c : Nat} {cc : Nat} : (tyD (.clo c) (.cls cc)) = (false) := (rfl)
@[simp] theorem clsIn_exc {c : Nat} {fs : List D} : (clsIn P (.exc c fs)) = (true) := (rfl)
@[simp] theorem isAble_exc {c : Nat} {fs : List D} : (isAble (.exc c fs)) = (false) := (rfl)
@[simp] theorem tyD_exc_int {c : Nat} {fs : List D} : (tyD (.exc c fs) .int) = (false) := (rfl)
@[simp] theorem tyD_exc_bool {c : Nat} {fs : List D} : (tyD (.exc c fs) .bool) = (false) := (rfl)
@[simp] theorem tyD_exc_str {c : Nat} {fs : List D} : (tyD (.exc c fs) .str) = (false) := (rfl)
@[simp] theorem tyD_exc_tuple {c : Nat} {fs : List D} : (tyD (.exc c fs) .tuple) = (false) := (rfl)
@[simp] theorem tyD_exc_list {c : Nat} {fs : List D} : (tyD (.exc c fs) .list) = (false) := (rfl)
@[simp] theorem tyD_exc_dict {c : Nat} {fs : List D} : (tyD (.exc c fs) .dict) = (false) := (rfl)
@[simp] theorem tyD_exc_cls {c : Nat} {fs : List D} {cc : Nat} : (tyD (.exc c fs) (.cls cc)) = (false) := (rfl)
@[simp] theorem clsIn_sd {l : List (Str × Int)} : (clsIn P (.sd l)) = (true) := (rfl)
@[simp] theorem isAble_sd {l : List (Str × Int)} : (isAble (.sd l)) = (true) := (rfl)
@[simp] theorem tyD_sd_int {l : List (Str × Int)} : (tyD (.sd l) .int) = (false) := (rfl)
@[simp] theorem tyD_sd_bool {l : List (Str × Int)} : (tyD (.sd l) .bool) = (false) := (rfl)
@[simp] theorem tyD_sd_str {l : List (Str × Int)} : (tyD (.sd l) .str) = (false) := (rfl)
@[simp] theorem tyD_sd_tuple {l : List (Str × Int)} : (tyD (.sd l) .tuple) = (false) := (rfl)
@[simp] theorem tyD_sd_list {l : List (Str × Int)} : (tyD (.sd l) .list) = (false) := (rfl)
@[simp] theorem tyD_sd_dict {l : List (Str × Int)} : (tyD (.sd l) .dict) = (true) := (rfl)
@[simp] theorem tyD_sd_cls {l : List (Str × Int)} {cc : Nat} : (tyD (.sd l) (.cls cc)) = (false) := (rfl)
@[simp] theorem gx_var {n : Nat} : slotOf (.var n) ρ = (match ρ[n]? with | some (some _) => true | _ => false) := (rfl)
theorem setIx_own {i : Nat} {xs : List D} {iv v : D} {K : Env → Store → Prop} (h : ρ[i]? = some (some (.own xs))) : setIxD ρ i iv v S K = setL xs iv v fun ys => K (ρ.set i (some (.own ys))) S := by
  unfold setIxD; rw [h]
theorem setIx_ptr {i a : Nat} {xs : List D} {iv v : D} {K : Env → Store → Prop} (h : ρ[i]? = some (some (.ptr a))) (h2 : S a = some (.lst xs)) : setIxD ρ i iv v S K = setL xs iv v fun ys => K ρ (S.put a (.lst ys)) := by
  unfold setIxD; rw [h]; simp only [h2]
@[simp] theorem setL_int {xs : List D} {i : Int} {v : D} {K : List D → Prop} : setL xs (.int i) v K = oD (L2.ixN xs.length i) fun j => K (xs.set j v) := by simp only [setL, oD]; first | rfl | (split <;> simp_all)
@[simp] theorem put_same {a : Nat} {c : Cell} : S.put a c a = some c := by simp [Store.put]
theorem put_ne {a b : Nat} {c : Cell} (h : b ≠ a) : S.put a c b = S b := by simp [Store.put, h]
@[simp] theorem put_put {a : Nat} {c d : Cell} : (S.put a c).put a d = S.put a d := by
  funext b; unfold Store.put; by_cases h : b = a <;> simp [h]
/-! ### statements -/
variable {K : Ko}
@[simp] theorem ws_nil : evS P F Γ .nil ρ S K = K.nx ρ S := (rfl)
@[simp] theorem ws_seq {s r : Sx} : evS P F Γ (.seq s r) ρ S K = evS P F Γ s ρ S { K with nx := fun ρ S => evS P F Γ r ρ S K } := (rfl)
@[simp] theorem ws_asg {t e : Ex} : evS P F Γ (.asg t e) ρ S K = (ev P F Γ e).e ρ S (fun d S => (ev P F Γ t).g d ρ S K.nx fun _ _ => False) (K.ex ρ) := (rfl)
@[simp] theorem ws_par {is : List Nat} {es : Ex} : evS P F Γ (.par is es) ρ S K = (ev P F Γ es).l ρ S (fun ds S => ds.length = is.length ∧ K.nx (setAll is ds ρ) S) (K.ex ρ) := (rfl)
@[simp] theorem ws_setAt {i n : Nat} {e : Ex} : evS P F Γ (.setAt i n e) ρ S K = (ev P F Γ e).e ρ S (fun d S => setAtD P ρ i n d S fun S => K.nx ρ S) (K.ex ρ) := (rfl)
def augD (ρ : Env) (i : Nat) (x y : D) (nx : Env → Prop) : Prop := match x, y with
  | .int i', .int j' => nx (ρ.set i (some (.int (i' + j'))))
  | _, _ => False
theorem augD_int {n : Nat} {i j : Int} {nx : Env → Prop} : augD ρ n (.int i) (.int j) nx = nx (ρ.set n (some (.int (i + j)))) := (rfl)
@[simp] theorem ws_aug {i : Nat} {e : Ex} : evS P F Γ (.aug i e) ρ S K = getV ρ i fun x => (ev P F Γ e).e ρ S (fun y S => augD ρ i x y fun ρ => K.nx ρ S) (K.ex ρ) := (rfl)
def appD (ρ : Env) (i : Nat) (y : D) (S : Store) (nx : Env → Store → Prop) : Prop := match ρ[i]? with
    | some (some (.own xs)) => xs.length < sl ∧ nx (ρ.set i (some (.own (xs ++ [y])))) S
    | some (some (.ptr a)) => (match S a with
      | some (.lst xs) => xs.length < sl ∧ nx ρ (S.put a (.lst (xs ++ [y])))
      | _ => False)
    | _ => False
theorem appD_own {i : Nat} {y : D} {xs : List D} {nx : Env → Store → Prop} (h : ρ[i]? = some (some (.own xs))) : appD ρ i y S nx = (xs.length < sl ∧ nx (ρ.set i (some (.own (xs ++ [y])))) S) := by
  unfold appD; rw [h]
theorem appPre_own {i : Nat} {xs : List D} (h : ρ[i]? = some (some (.own xs))) : appPre ρ i S = true := by
  unfold appPre; rw [h]
@[simp] theorem ws_app {i : Nat} {e : Ex} : evS P F Γ (.app i e) ρ S K = (appPre ρ i S = true ∧ (ev P F Γ e).e ρ S (fun y S => appD ρ i y S K.nx) (K.ex ρ)) := (rfl)
@[simp] theorem ws_expr {e : Ex} : evS P F Γ (.expr e) ρ S K = (ev P F Γ e).e ρ S (fun _ S => K.nx ρ S) (K.ex ρ) := (rfl)
@[simp] theorem ws_ite {c : Ex} {a b : Sx} : evS P F Γ (.ite c a b) ρ S K = (ev P F Γ c).t ρ S (fun k S => if k = true then evS P F Γ a ρ S K else evS P F Γ b ρ S K) (K.ex ρ) := (rfl)
@[simp] theorem ws_forz {t : Ex} {i : Nat} {b : Sx} : evS P F Γ (.forz t i b) ρ S K = forzD ρ i fun xs ρ => loopS (fun x ρ S k => (ev P F Γ t).g x ρ S (fun ρ S => evS P F Γ b ρ S { K with nx := k, ct := k, bk := K.nx }) fun _ _ => False) K.nx xs ρ S := (rfl)
@[simp] theorem ws_for {t it : Ex} {b : Sx} : evS P F Γ (.for_ t it b) ρ S K = (ev P F Γ it).i ρ S (fun xs S => loopS (fun x ρ S k => (ev P F Γ t).g x ρ S (fun ρ S => evS P F Γ b ρ S { K with nx := k, ct := k, bk := K.nx }) fun _ _ => False) K.nx xs ρ S) (K.ex ρ) := (rfl)
@[simp] theorem ws_brk : evS P F Γ .brk ρ S K = K.bk ρ S := (rfl)
@[simp] theorem ws_cont : evS P F Γ .cont ρ S K = K.ct ρ S := (rfl)
@[simp] theorem ws_pass : evS P F Γ .pass ρ S K = K.nx ρ S := (rfl)
@[simp] theorem ws_stop : evS P F Γ .stop ρ S K = False := (rfl)
@[simp] theorem ws_ret {e : Ex} : evS P F Γ (.ret e) ρ S K = (ev P F Γ e).e ρ S K.rt (K.ex ρ) := (rfl)
def retvD (ρ : Env) (i : Nat) (S : Store) (Q : QD) : Prop := match ρ[i]? with
    | some (some (.own xs)) => Q (.lst xs) S
    | _ => False
theorem retvD_own {i : Nat} {xs : List D} (h : ρ[i]? = some (some (.own xs))) : retvD ρ i S Q = Q (.lst xs) S := by
  unfold retvD; rw [h]
@[simp] theorem ws_retv {i : Nat} : evS P F Γ (.retv i) ρ S K = retvD ρ i S K.rt := (rfl)
@[simp] theorem isx_exc {l : List Nat} {c : Nat} {ds : List D} {k : D → Prop} : isxD P l (.exc c ds) k = ((P.exs.lookup c).isSome = true ∧ k (.bool (l.contains c))) := (rfl)
@[simp] theorem callv_0 {c : Clo} {ds : List D} {r : Env} : callvD [c] (some (.clo 0) :: r) 0 ds S Q E = c ds S Q E := (rfl)
def tryX (P : Prog) (l : List Nat) (hd : Nat → List D → Env → Store → Prop) (ex : Env → QD) (ρ' : Env) (d : D) (S' : Store) : Prop := match d with
  | .exc c ds => (P.exs.lookup c).isSome = true ∧ if l.contains c = true then hd c ds ρ' S' else ex ρ' d S'
  | _ => False
@[simp] theorem tryX_exc {l : List Nat} {hd : Nat → List D → Env → Store → Prop} {ex : Env → QD} {c : Nat} {ds : List D} : tryX P l hd ex ρ (.exc c ds) S = ((P.exs.lookup c).isSome = true ∧ if l.contains c = true then hd c ds ρ S else ex ρ (.exc c ds) S) := (rfl)
@[simp] theorem ws_try {b h : Sx} {cs l : List Nat} {x : Nat} : evS P F Γ (.try_ b cs l x h) ρ S K = evS P F Γ b ρ S { K with ex := tryX P l (fun c ds ρ' S' => evS P F Γ h (ρ'.set x (some (.exc c ds))) S' { nx := fun _ _ => False, rt := fun d S2 => S2 = S' ∧ d.noX = true ∧ K.rt d S2, bk := fun _ _ => False, ct := fun _ _ => False, ex := fun _ _ _ => False }) K.ex } := by
  show evS P F Γ b ρ S _ = evS P F Γ b ρ S _
  congr 2
@[simp] theorem ws_raise {c : Nat} {es : Ex} : evS P F Γ (.raise c es) ρ S K = (ev P F Γ es).l ρ S (fun ds S => K.ex ρ (.exc c ds) S) (K.ex ρ) := (rfl)
/-- what is wanted of a new instance -/
def mkQ (c nf : Nat) (mu : Bool) (a : Nat) (S : Store) (Q : QD) (r : D) (S' : Store) : Prop := r = .none ∧ match S' a with
          | some (.ins c' fs) => (c' = c ∧ fs.length = nf) ∧ if mu = true then Q (.ptr a) S' else (D.pureL fs = true ∧ S'.del a = S) ∧ Q (.obj c fs) S
          | _ => False
def lenQ (Q : QD) (r : D) (S : Store) : Prop := match r with
      | .int i => (0 ≤ i ∧ i < 2 ^ 31) ∧ Q (.int i) S
      | _ => False
@[simp] theorem lenQ_int {i : Int} : lenQ Q (.int i) S = ((0 ≤ i ∧ i < 2 ^ 31) ∧ Q (.int i) S) := (rfl)
theorem mkQ_ins {c nf : Nat} {mu : Bool} {a : Nat} {S S' : Store} {Q : QD} {fs : List D} (h : S' a = some (.ins c fs)) (hn : fs.length = nf) (hm : mu = false) (hp : D.pureL fs = true) (hd : S'.del a = S) (hQ : Q (.obj c fs) S) : mkQ c nf mu a S Q .none S' := by
  refine ⟨rfl, ?_⟩
  rw [h]
  simp [hn, hm, hp, hd, hQ]
@[simp] theorem sl0 : 0 ≤ sl := by decide
@[simp] theorem sl1 : 1 ≤ sl := by decide
@[simp] theorem sl2 : 2 ≤ sl := by decide
@[simp] theorem sl3 : 3 ≤ sl := by decide
@[simp] theorem sl4 : 4 ≤ sl := by decide
@[simp] theorem sl5 : 5 ≤ sl := by decide
@[simp] theorem sl6 : 6 ≤ sl := by decide
@[simp] theorem sl7 : 7 ≤ sl := by decide
@[simp] theorem sl8 : 8 ≤ sl := by decide
@[simp] theorem cst_none : Cst.d .none = .none := (rfl)
@[simp] theorem cst_bool {b : Bool} : Cst.d (.bool b) = .bool b := (rfl)
@[simp] theorem cst_int {b : Int} : Cst.d (.int b) = .int b := (rfl)
@[simp] theorem cst_str {b : Str} : Cst.d (.str b) = .str b := (rfl)
@[simp] theorem wipe_nil : wipe [] ρ = ρ := (rfl)
@[simp] theorem wipe_cons {v : Nat} {vs : List Nat} : wipe (v :: vs) ρ = (wipe vs ρ).set v none := (rfl)
@[simp] theorem setAll_nil {ds : List D} : setAll [] ds ρ = ρ := by simp [setAll]
@[simp] theorem setAll_cons {i : Nat} {is : List Nat} {d : D} {ds : List D} : setAll (i :: is) (d :: ds) ρ = setAll is ds (ρ.set i (some d)) := (rfl)
@[simp] theorem exLen_nil : exLen .nil = 0 := (rfl)
@[simp] theorem exLen_cons {a b : Ex} : exLen (.cons a b) = exLen b + 1 := (rfl)
end
end Sb
set_option linter.all false
set_option maxRecDepth 20000
set_option autoImplicit false
/-! C1: loops; data of plain kinds. -/
namespace Sb
open PySem
section
variable {bnd : D → Store → (Env → Store → Prop) → Prop} {cond : Env → Store → QB → Prop} {elt : Env → Store → QD → Prop}
@[simp] theorem loopC_nil {acc : List D} {S : Store} {Q : QL} : loopC bnd cond elt [] acc S Q = Q acc S := by simp [loopC]
@[simp] theorem loopC_cons {x : D} {r acc : List D} {S : Store} {Q : QL} : loopC bnd cond elt (x :: r) acc S Q = (bnd x S fun ρ S => cond ρ S fun b S => if b = true then elt ρ S fun d S => acc.length < sl ∧ loopC bnd cond elt r (acc ++ [d]) S Q else loopC bnd cond elt r acc S Q) := by rw [loopC]
theorem loopC_inv0 (I : List D → List D → Store → Prop) {Q : QL} : ∀ (rest pre acc : List D) (S : Store),
    (pre ++ rest).length ≤ sl → acc.length ≤ pre.length → I pre acc S →
    (∀ p x q acc S, pre ++ rest = p ++ x :: q → I p acc S → ∀ (k1 : QD) (k2 : Store → Prop), (∀ d S', I (p ++ [x]) (acc ++ [d]) S' → k1 d S') → (∀ S', I (p ++ [x]) acc S' → k2 S') →
      bnd x S fun ρ S => cond ρ S fun b S => if b = true then elt ρ S k1 else k2 S) →
    (∀ acc S, I (pre ++ rest) acc S → Q acc S) → loopC bnd cond elt rest acc S Q
  | [], pre, acc, S, hl, ha, hi, hs, hQ => by
    rw [List.append_nil] at hQ
    exact hQ _ _ hi
  | x :: r, pre, acc, S, hl, ha, hi, hs, hQ => by
    have e : pre ++ x :: r = (pre ++ [x]) ++ r := by simp
    have hlt : acc.length < sl := by
      rw [List.length_append, List.length_cons] at hl
      omega
    refine hs pre x r acc S rfl hi _ _ (fun d S' h => ⟨hlt, ?_⟩) fun S' h => ?_
    · refine loopC_inv0 I r (pre ++ [x]) (acc ++ [d]) S' (e ▸ hl) (by simp; omega) h (fun p y q acc S h2 => hs p y q acc S (e.trans h2)) (e ▸ hQ)
    · refine loopC_inv0 I r (pre ++ [x]) acc S' (e ▸ hl) (by simp; omega) h (fun p y q acc S h2 => hs p y q acc S (e.trans h2)) (e ▸ hQ)
theorem loopC_inv (I : List D → List D → Store → Prop) {Q : QL} {xs : List D} {S : Store} (hl : xs.length ≤ sl) (h0 : I [] [] S)
    (step : ∀ p x q acc S, xs = p ++ x :: q → I p acc S → ∀ (k1 : QD) (k2 : Store → Prop), (∀ d S', I (p ++ [x]) (acc ++ [d]) S' → k1 d S') → (∀ S', I (p ++ [x]) acc S' → k2 S') →
      bnd x S fun ρ S => cond ρ S fun b S => if b = true then elt ρ S k1 else k2 S)
    (hQ : ∀ acc S, I xs acc S → Q acc S) : loopC bnd cond elt xs [] S Q :=
  loopC_inv0 I xs [] [] S (by simpa using hl) (Nat.le_refl _) h0 (by simpa using step) (by simpa using hQ)
/-- a comprehension that changes nothing -/
theorem loopC_pure0 {α : Type} {emb : α → D} (p : α → Bool) (f : α → D) {S : Store} {Q : QL} : ∀ (xs : List α) (acc : List D), acc.length + xs.length ≤ sl →
    (∀ x ∈ xs, ∀ (k1 : QD) (k2 : Store → Prop), (p x = true → k1 (f x) S) → (p x = false → k2 S) → bnd (emb x) S fun ρ S => cond ρ S fun b S => if b = true then elt ρ S k1 else k2 S) →
    Q (acc ++ (xs.filter p).map f) S → loopC bnd cond elt (xs.map emb) acc S Q
  | [], acc, hl, hs, hQ => by simpa [loopC] using hQ
  | x :: r, acc, hl, hs, hQ => by
    rw [List.length_cons] at hl
    refine hs x (List.mem_cons_self) _ _ (fun hp => ⟨by omega, ?_⟩) fun hp => ?_
    · refine loopC_pure0 p f r (acc ++ [f x]) (by simp; omega) (fun y hy => hs y (List.mem_cons_of_mem _ hy)) ?_
      simpa [List.filter_cons, hp] using hQ
    · refine loopC_pure0 p f r acc (by omega) (fun y hy => hs y (List.mem_cons_of_mem _ hy)) ?_
      simpa [List.filter_cons, hp] using hQ
theorem loopC_pure {α : Type} {emb : α → D} (p : α → Bool) (f : α → D) {S : Store} {Q : QL} {xs : List α} (hl : xs.length ≤ sl)
    (step : ∀ x ∈ xs, ∀ (k1 : QD) (k2 : Store → Prop), (p x = true → k1 (f x) S) → (p x = false → k2 S) → bnd (emb x) S fun ρ S => cond ρ S fun b S => if b = true then elt ρ S k1 else k2 S)
    (hQ : Q ((xs.filter p).map f) S) : loopC bnd cond elt (xs.map emb) [] S Q :=
  loopC_pure0 p f xs [] (by simpa using hl) step (by simpa using hQ)
/-- .. without a test -/
theorem loopC_map {α : Type} {emb : α → D} (f : α → D) {S : Store} {Q : QL} {xs : List α} (hl : xs.length ≤ sl)
    (step : ∀ x ∈ xs, ∀ (k1 : QD) (k2 : Store → Prop), k1 (f x) S → bnd (emb x) S fun ρ S => cond ρ S fun b S => if b = true then elt ρ S k1 else k2 S)
    (hQ : Q (xs.map f) S) : loopC bnd cond elt (xs.map emb) [] S Q :=
  loopC_pure (fun _ => true) f hl (fun x hx k1 k2 h _ => step x hx k1 k2 (h rfl)) (by rw [List.filter_eq_self.mpr (fun _ _ => rfl)]; exact hQ)
/-- a comprehension with two clauses that changes nothing -/
theorem loopC2_pure0 {α : Type} {emb : α → D} {inner : Env → List D → Store → QL → Prop} (f : α → List D) {S : Store} {Q : QL} : ∀ (xs : List α) (acc : List D), acc.length + (xs.flatMap f).length ≤ sl →
    (∀ x ∈ xs, ∀ (acc : List D), acc.length + (f x).length ≤ sl → ∀ (k1 : QL) (k2 : Store → Prop), k1 (acc ++ f x) S → (f x = [] → k2 S) → bnd (emb x) S fun ρ S => cond ρ S fun b S => if b = true then inner ρ acc S k1 else k2 S) →
    Q (acc ++ xs.flatMap f) S → loopC2 bnd cond inner (xs.map emb) acc S Q
  | [], acc, hl, hs, hQ => by simpa [loopC2] using hQ
  | x :: r, acc, hl, hs, hQ => by
    rw [List.flatMap_cons, List.length_append] at hl
    rw [List.flatMap_cons] at hQ
    refine hs x (List.mem_cons_self) acc (by omega) _ _ ?_ fun he => ?_
    · exact loopC2_pure0 f r (acc ++ f x) (by rw [List.length_append]; omega) (fun y hy => hs y (List.mem_cons_of_mem _ hy)) (by simpa using hQ)
    · exact loopC2_pure0 f r acc (by omega) (fun y hy => hs y (List.mem_cons_of_mem _ hy)) (by simpa [he] using hQ)
theorem loopC2_pure {α : Type} {emb : α → D} {inner : Env → List D → Store → QL → Prop} (f : α → List D) {S : Store} {Q : QL} {xs : List α} (hl : (xs.flatMap f).length ≤ sl)
    (step : ∀ x ∈ xs, ∀ (acc : List D), acc.length + (f x).length ≤ sl → ∀ (k1 : QL) (k2 : Store → Prop), k1 (acc ++ f x) S → (f x = [] → k2 S) → bnd (emb x) S fun ρ S => cond ρ S fun b S => if b = true then inner ρ acc S k1 else k2 S)
    (hQ : Q (xs.flatMap f) S) : loopC2 bnd cond inner (xs.map emb) [] S Q :=
  loopC2_pure0 f xs [] (by simpa using hl) step (by simpa using hQ)
end
/-! ### loops of statements -/
theorem loopS_inv0 {body : D → Env → Store → (Env → Store → Prop) → Prop} {nx : Env → Store → Prop} (I : List D → Env → Store → Prop) : ∀ (rest pre : List D) (ρ : Env) (S : Store), I pre ρ S →
    (∀ p x q ρ S, pre ++ rest = p ++ x :: q → I p ρ S → ∀ k : Env → Store → Prop, (∀ ρ' S', I (p ++ [x]) ρ' S' → k ρ' S') → body x ρ S k) →
    (∀ ρ S, I (pre ++ rest) ρ S → nx ρ S) → loopS body nx rest ρ S
  | [], pre, ρ, S, hi, hs, hQ => by
    rw [List.append_nil] at hQ
    exact hQ _ _ hi
  | x :: r, pre, ρ, S, hi, hs, hQ => by
    have e : pre ++ x :: r = (pre ++ [x]) ++ r := by simp
    refine hs pre x r ρ S rfl hi _ fun ρ' S' h => ?_
    exact loopS_inv0 I r (pre ++ [x]) ρ' S' h (fun p y q ρ S h2 => hs p y q ρ S (e.trans h2)) (e ▸ hQ)
theorem loopS_inv {body : D → Env → Store → (Env → Store → Prop) → Prop} {nx : Env → Store → Prop} (I : List D → Env → Store → Prop) {xs : List D} {ρ : Env} {S : Store} (h0 : I [] ρ S)
    (step : ∀ p x q ρ S, xs = p ++ x :: q → I p ρ S → ∀ k : Env → Store → Prop, (∀ ρ' S', I (p ++ [x]) ρ' S' → k ρ' S') → body x ρ S k)
    (hQ : ∀ ρ S, I xs ρ S → nx ρ S) : loopS body nx xs ρ S :=
  loopS_inv0 I xs [] ρ S h0 (by simpa using step) (by simpa using hQ)
/-- .. over an embedded list -/
theorem loopS_map {α : Type} {emb : α → D} {body : D → Env → Store → (Env → Store → Prop) → Prop} {nx : Env → Store → Prop} (I : List α → Env → Store → Prop) {xs : List α} {ρ : Env} {S : Store} (h0 : I [] ρ S)
    (step : ∀ p x q ρ S, xs = p ++ x :: q → I p ρ S → ∀ k : Env → Store → Prop, (∀ ρ' S', I (p ++ [x]) ρ' S' → k ρ' S') → body (emb x) ρ S k)
    (hQ : ∀ ρ S, I xs ρ S → nx ρ S) : loopS body nx (xs.map emb) ρ S := by
  suffices H : ∀ (rest pre : List α) (ρ : Env) (S : Store), xs = pre ++ rest → I pre ρ S → loopS body nx (rest.map emb) ρ S from H xs [] ρ S rfl h0
  intro rest
  induction rest with
  | nil => intro pre ρ S e hi; rw [List.append_nil] at e; subst e; exact hQ _ _ hi
  | cons x r ih =>
    intro pre ρ S e hi
    exact step pre x r ρ S e hi _ fun ρ' S' h => ih (pre ++ [x]) ρ' S' (by simp [e]) h
/-! ### data -/
@[simp] theorem intsD_map {α : Type} (f : α → Int) (xs : List α) : intsD (xs.map fun x => .int (f x)) = some (xs.map f) := by
  induction xs with
  | nil => rfl
  | cons x r ih => simp [intsD, ih]
@[simp] theorem intsD_map' (xs : List Int) : intsD (xs.map .int) = some xs := by
  simpa using intsD_map id xs
@[simp] theorem boolsD_map {α : Type} (f : α → Bool) (xs : List α) : boolsD (xs.map fun x => .bool (f x)) = some (xs.map f) := by
  induction xs with
  | nil => rfl
  | cons x r ih => simp [boolsD, ih]
@[simp] theorem boolsD_map' (xs : List Bool) : boolsD (xs.map .bool) = some xs := by
  simpa using boolsD_map id xs
@[simp] theorem strsD_map {α : Type} (f : α → Str) (xs : List α) : strsD (xs.map fun x => .str (f x)) = some (xs.map f) := by
  induction xs with
  | nil => rfl
  | cons x r ih => simp [strsD, ih]
@[simp] theorem strsD_map' (xs : List Str) : strsD (xs.map .str) = some xs := by
  simpa using strsD_map id xs
@[simp] theorem zipW_map {α β : Type} (f : α → D) (g : β → D) (xs : List α) (ys : List β) : List.zipWith (fun x y => D.tup [x, y]) (xs.map f) (ys.map g) = (xs.zip ys).map fun p => .tup [f p.1, g p.2] := by
  induction xs generalizing ys with
  | nil => simp
  | cons x r ih => cases ys <;> simp [ih]
@[simp] theorem zipW_map2 {α β : Type} (f : α → D) (g : β → D) (xs : List α) (ys : List β) : List.zipWith (fun x y => D.tup [f x, g y]) xs ys = (xs.zip ys).map fun p => .tup [f p.1, g p.2] := by
  induction xs generalizing ys with
  | nil => simp
  | cons x r ih => cases ys <;> simp [ih]
theorem enumL_map {α : Type} (f : α → D) (xs : List α) (n : Nat) : enumL n (xs.map f) = (xs.zipIdx n).map fun p => .tup [.int p.2, f p.1] := by
  induction xs generalizing n with
  | nil => rfl
  | cons x r ih => simp [enumL, ih, List.zipIdx_cons]
@[simp] theorem enumL_map0 {α : Type} (f : α → D) (xs : List α) : enumL 0 (xs.map f) = xs.zipIdx.map fun p => .tup [.int p.2, f p.1] := enumL_map f xs 0
theorem flat_map {α : Type} (f : α → D) (h : ∀ x, flatD (f x) = true) (xs : List α) : (xs.map f).all flatD = true := by
  simp [h]
@[simp] theorem inD_str (s : Str) (xs : List Str) : inD (.str s) (xs.map .str) = some (decide (s ∈ xs)) := by
  unfold inD
  rw [if_pos (by simp [flatD])]
  congr 1
  simp only [List.any_map, Function.comp_def, eqF]
  induction xs with
  | nil => simp
  | cons x r ih => rw [List.any_cons, ih, Bool.eq_iff_iff]; simp [@eq_comm _ s x]
@[simp] theorem inD_int (s : Int) (xs : List Int) : inD (.int s) (xs.map .int) = some (decide (s ∈ xs)) := by
  unfold inD
  rw [if_pos (by simp [flatD])]
  congr 1
  simp only [List.any_map, Function.comp_def, eqF]
  induction xs with
  | nil => simp
  | cons x r ih => rw [List.any_cons, ih, Bool.eq_iff_iff]; simp [@eq_comm _ s x]
@[simp] theorem inD_bool (s : Bool) (xs : List Bool) : inD (.bool s) (xs.map .bool) = some (decide (s ∈ xs)) := by
  unfold inD
  rw [if_pos (by simp [flatD])]
  congr 1
  simp only [List.any_map, Function.comp_def, eqF]
  induction xs with
  | nil => simp
  | cons x r ih => rw [List.any_cons, ih, Bool.eq_iff_iff]; simp [@eq_comm _ s x]
@[simp] theorem inD_nat (s : Nat) (xs : List Nat) : inD (.int s) (xs.map fun n : Nat => .int (n : Int)) = some (decide (s ∈ xs)) := by
  have := inD_int s (xs.map fun n : Nat => (n : Int))
  rw [List.map_map] at this
  rw [show (xs.map fun n : Nat => D.int (n : Int)) = xs.map (D.int ∘ fun n : Nat => (n : Int)) from rfl, this]
  congr 1
  rw [decide_eq_decide]
  simp
  constructor
  · rintro ⟨a, h1, h2⟩
    have : a = s := by omega
    rwa [← this]
  · exact fun h => ⟨s, h, rfl⟩
theorem idxD_str (s : Str) (xs : List Str) : idxD (.str s) (xs.map .str) = xs.findIdx? (fun y => y == s) := by
  unfold idxD
  rw [if_pos (by simp [flatD])]
  induction xs with
  | nil => rfl
  | cons x r ih => rw [List.map_cons, List.findIdx?_cons, List.findIdx?_cons, ih]; rfl
@[simp] theorem idxF_str (s : Str) (xs : List Str) : idxF (.str s) (xs.map .str) = idxD (.str s) (xs.map .str) := by
  unfold idxF idxD
  rw [if_pos (by simp [flatD]), if_pos (by simp [flatD])]
@[simp] theorem eqD_str (a b : Str) : eqD (.str a) (.str b) = some (decide (a = b)) := rfl
@[simp] theorem eqD_int (a b : Int) : eqD (.int a) (.int b) = some (decide (a = b)) := by
  show some _ = _
  rw [PyData.eqv]; congr 1
@[simp] theorem eqD_bool (a b : Bool) : eqD (.bool a) (.bool b) = some (decide (a = b)) := by
  cases a <;> cases b <;> rfl
end Sb
set_option maxRecDepth 20000
namespace Sb
open PySem
theorem sub1_no {x : Str} {c : Nat} (h : ∀ d ∈ x.cps, d ≠ c) : subS ⟨#[c]⟩ x = false := by
  unfold subS
  rw [PySem.W.occ_nil_of_no]
  · rfl
  · intro i hi
    cases e : PySem.Builtin.Str.subAt x ⟨#[c]⟩ i with
    | false => rfl
    | true =>
      have e := beq_iff_eq.mp e
      have hc : c ∈ x.cps.extract i (i + 1) := by
        have : c ∈ (⟨#[c]⟩ : Str).cps := by simp
        rw [← e] at this
        exact this
      obtain ⟨k, hk, e2⟩ := Array.mem_extract_iff_getElem.mp hc
      exact absurd e2 (h _ (Array.getElem_mem _))
theorem lets_ok (c : Nat) : subS ⟨#[c]⟩ (Str.ofString "abcdefghijklmnopqrstuvwxyz") = (decide (97 ≤ c) && decide (c ≤ 122)) := by
  by_cases h : c < 128
  · have : ∀ c < 128, subS ⟨#[c]⟩ (Str.ofString "abcdefghijklmnopqrstuvwxyz") = (decide (97 ≤ c) && decide (c ≤ 122)) := by decide +kernel
    exact this c h
  · rw [sub1_no]
    · simp; omega
    · have : ∀ d ∈ (Str.ofString "abcdefghijklmnopqrstuvwxyz").cps, d < 128 := by decide +kernel
      intro d hd e
      have := this d hd
      omega
theorem digs_ok (c : Nat) : subS ⟨#[c]⟩ (Str.ofString "0123456789") = (decide (48 ≤ c) && decide (c ≤ 57)) := by
  by_cases h : c < 128
  · have : ∀ c < 128, subS ⟨#[c]⟩ (Str.ofString "0123456789") = (decide (48 ≤ c) && decide (c ≤ 57)) := by decide +kernel
    exact this c h
  · rw [sub1_no]
    · simp; omega
    · have : ∀ d ∈ (Str.ofString "0123456789").cps, d < 128 := by decide +kernel
      intro d hd e
      have := this d hd
      omega
theorem atI_nat {α : Type} {xs : List α} {i : Nat} : L2.atI xs (i : Int) = xs[i]? := by
  unfold L2.atI L2.ixN
  rw [if_pos (by omega)]
  by_cases h : i < xs.length
  · rw [if_pos (by omega)]; simp
  · rw [if_neg (by omega)]; simp; omega
@[simp] theorem atI_lit {α : Type} {xs : List α} {i : Nat} : L2.atI xs (no_index (OfNat.ofNat i : Int)) = xs[i]? := atI_nat
@[simp] theorem atI_0 {α : Type} {xs : List α} : L2.atI xs (0 : Int) = xs[0]? := atI_nat (i := 0)
@[simp] theorem atI_1 {α : Type} {xs : List α} : L2.atI xs (1 : Int) = xs[1]? := atI_nat (i := 1)
theorem ixN_nat {n i : Nat} : L2.ixN n (i : Int) = if i < n then some i else none := by
  unfold L2.ixN
  rw [if_pos (by omega)]
  by_cases h : i < n
  · rw [if_pos (by omega), if_pos h]; simp
  · rw [if_neg (by omega), if_neg h]
@[simp] theorem atI_last {α : Type} {xs : List α} {y : α} : L2.atI (xs ++ [y]) (-1) = some y := by
  unfold L2.atI L2.ixN
  rw [if_neg (by omega), if_pos (by simp; omega)]
  simp
  have : (-1 + ((xs.length : Int) + 1)).toNat = xs.length := by omega
  rw [this]; simp
@[simp] theorem ixN_lit {n i : Nat} : L2.ixN n (no_index (OfNat.ofNat i : Int)) = if i < n then some i else none := ixN_nat
@[simp] theorem ixN_0 {n : Nat} : L2.ixN n (0 : Int) = if 0 < n then some 0 else none := ixN_nat (i := 0)
@[simp] theorem ixN_1 {n : Nat} : L2.ixN n (1 : Int) = if 1 < n then some 1 else none := ixN_nat (i := 1)
@[simp] theorem oD_atI {α : Type} {xs : List α} {i : Nat} {k : α → Prop} : oD (L2.atI xs (i : Int)) k = oD xs[i]? k := by rw [atI_nat]
theorem oD_map {α β : Type} {xs : List α} {f : α → β} {i : Nat} {k : β → Prop} (d : α) (h : i < xs.length) : oD (Option.map f xs[i]?) k = k (f (xs[i]?.getD d)) := by
  rw [List.getElem?_eq_getElem h]; rfl
@[simp] theorem ixS_put {S : Store} {a : Nat} {xs : List D} {i : Int} {k : D → Prop} : ixS (.ptr a) (.int i) (S.put a (.lst xs)) k = oD (L2.atI xs i) k := ixS_ptr put_same
theorem setIx_ptr0 {S : Store} {r : Env} {a : Nat} {xs : List D} {iv v : D} {K : Env → Store → Prop} (h : S a = some (.lst xs)) : setIxD (some (.ptr a) :: r) 0 iv v S K = setL xs iv v fun ys => K (some (.ptr a) :: r) (S.put a (.lst ys)) := setIx_ptr rfl h
@[simp] theorem setIx_put {S : Store} {r : Env} {a : Nat} {xs : List D} {iv v : D} {K : Env → Store → Prop} : setIxD (some (.ptr a) :: r) 0 iv v (S.put a (.lst xs)) K = setL xs iv v fun ys => K (some (.ptr a) :: r) (S.put a (.lst ys)) := by
  rw [setIx_ptr0 put_same]; simp
@[simp] theorem appPre_own0 {S : Store} {r : Env} {xs : List D} : appPre (some (.own xs) :: r) 0 S = true := (rfl)
@[simp] theorem appD_own0 {S : Store} {r : Env} {xs : List D} {y : D} {nx : Env → Store → Prop} : appD (some (.own xs) :: r) 0 y S nx = (xs.length < sl ∧ nx (some (.own (xs ++ [y])) :: r) S) := (rfl)
@[simp] theorem retvD_own0 {S : Store} {r : Env} {xs : List D} {Q : QD} : retvD (some (.own xs) :: r) 0 S Q = Q (.lst xs) S := (rfl)
@[simp] theorem setIx_own0 {S : Store} {r : Env} {xs : List D} {iv v : D} {K : Env → Store → Prop} : setIxD (some (.own xs) :: r) 0 iv v S K = setL xs iv v fun ys => K (some (.own ys) :: r) S := (rfl)
@[simp] theorem augD_0 {S : Store} {r : Env} {a b : Int} {x : Option D} {nx : Env → Prop} : augD (x :: r) 0 (.int a) (.int b) nx = nx (some (.int (a + b)) :: r) := (rfl)
@[simp] theorem appPre_own1 {S : Store} {r : Env} {x0 : Option D} {xs : List D} : appPre (x0 :: some (.own xs) :: r) 1 S = true := (rfl)
@[simp] theorem appD_own1 {S : Store} {r : Env} {x0 : Option D} {xs : List D} {y : D} {nx : Env → Store → Prop} : appD (x0 :: some (.own xs) :: r) 1 y S nx = (xs.length < sl ∧ nx (x0 :: some (.own (xs ++ [y])) :: r) S) := (rfl)
@[simp] theorem retvD_own1 {S : Store} {r : Env} {x0 : Option D} {xs : List D} {Q : QD} : retvD (x0 :: some (.own xs) :: r) 1 S Q = Q (.lst xs) S := (rfl)
@[simp] theorem setIx_own1 {S : Store} {r : Env} {x0 : Option D} {xs : List D} {iv v : D} {K : Env → Store → Prop} : setIxD (x0 :: some (.own xs) :: r) 1 iv v S K = setL xs iv v fun ys => K (x0 :: some (.own ys) :: r) S := (rfl)
@[simp] theorem augD_1 {S : Store} {r : Env} {x0 : Option D} {a b : Int} {x : Option D} {nx : Env → Prop} : augD (x0 :: x :: r) 1 (.int a) (.int b) nx = nx (x0 :: some (.int (a + b)) :: r) := (rfl)
@[simp] theorem appPre_own2 {S : Store} {r : Env} {x0 x1 : Option D} {xs : List D} : appPre (x0 :: x1 :: some (.own xs) :: r) 2 S = true := (rfl)
@[simp] theorem appD_own2 {S : Store} {r : Env} {x0 x1 : Option D} {xs : List D} {y : D} {nx : Env → Store → Prop} : appD (x0 :: x1 :: some (.own xs) :: r) 2 y S nx = (xs.length < sl ∧ nx (x0 :: x1 :: some (.own (xs ++ [y])) :: r) S) := (rfl)
@[simp] theorem retvD_own2 {S : Store} {r : Env} {x0 x1 : Option D} {xs : List D} {Q : QD} : retvD (x0 :: x1 :: some (.own xs) :: r) 2 S Q = Q (.lst xs) S := (rfl)
@[simp] theorem setIx_own2 {S : Store} {r : Env} {x0 x1 : Option D} {xs : List D} {iv v : D} {K : Env → Store → Prop} : setIxD (x0 :: x1 :: some (.own xs) :: r) 2 iv v S K = setL xs iv v fun ys => K (x0 :: x1 :: some (.own ys) :: r) S := (rfl)
@[simp] theorem augD_2 {S : Store} {r : Env} {x0 x1 : Option D} {a b : Int} {x : Option D} {nx : Env → Prop} : augD (x0 :: x1 :: x :: r) 2 (.int a) (.int b) nx = nx (x0 :: x1 :: some (.int (a + b)) :: r) := (rfl)
@[simp] theorem appPre_own3 {S : Store} {r : Env} {x0 x1 x2 : Option D} {xs : List D} : appPre (x0 :: x1 :: x2 :: some (.own xs) :: r) 3 S = true := (rfl)
@[simp] theorem appD_own3 {S : Store} {r : Env} {x0 x1 x2 : Option D} {xs : List D} {y : D} {nx : Env → Store → Prop} : appD (x0 :: x1 :: x2 :: some (.own xs) :: r) 3 y S nx = (xs.length < sl ∧ nx (x0 :: x1 :: x2 :: some (.own (xs ++ [y])) :: r) S) := (rfl)
@[simp] theorem retvD_own3 {S : Store} {r : Env} {x0 x1 x2 : Option D} {xs : List D} {Q : QD} : retvD (x0 :: x1 :: x2 :: some (.own xs) :: r) 3 S Q = Q (.lst xs) S := (rfl)
@[simp] theorem setIx_own3 {S : Store} {r : Env} {x0 x1 x2 : Option D} {xs : List D} {iv v : D} {K : Env → Store → Prop} : setIxD (x0 :: x1 :: x2 :: some (.own xs) :: r) 3 iv v S K = setL xs iv v fun ys => K (x0 :: x1 :: x2 :: some (.own ys) :: r) S := (rfl)
@[simp] theorem augD_3 {S : Store} {r : Env} {x0 x1 x2 : Option D} {a b : Int} {x : Option D} {nx : Env → Prop} : augD (x0 :: x1 :: x2 :: x :: r) 3 (.int a) (.int b) nx = nx (x0 :: x1 :: x2 :: some (.int (a + b)) :: r) := (rfl)
@[simp] theorem appPre_own4 {S : Store} {r : Env} {x0 x1 x2 x3 : Option D} {xs : List D} : appPre (x0 :: x1 :: x2 :: x3 :: some (.own xs) :: r) 4 S = true := (rfl)
@[simp] theorem appD_own4 {S : Store} {r : Env} {x0 x1 x2 x3 : Option D} {xs : List D} {y : D} {nx : Env → Store → Prop} : appD (x0 :: x1 :: x2 :: x3 :: some (.own xs) :: r) 4 y S nx = (xs.length < sl ∧ nx (x0 :: x1 :: x2 :: x3 :: some (.own (xs ++ [y])) :: r) S) := (rfl)
@[simp] theorem retvD_own4 {S : Store} {r : Env} {x0 x1 x2 x3 : Option D} {xs : List D} {Q : QD} : retvD (x0 :: x1 :: x2 :: x3 :: some (.own xs) :: r) 4 S Q = Q (.lst xs) S := (rfl)
@[simp] theorem setIx_own4 {S : Store} {r : Env} {x0 x1 x2 x3 : Option D} {xs : List D} {iv v : D} {K : Env → Store → Prop} : setIxD (x0 :: x1 :: x2 :: x3 :: some (.own xs) :: r) 4 iv v S K = setL xs iv v fun ys => K (x0 :: x1 :: x2 :: x3 :: some (.own ys) :: r) S := (rfl)
@[simp] theorem augD_4 {S : Store} {r : Env} {x0 x1 x2 x3 : Option D} {a b : Int} {x : Option D} {nx : Env → Prop} : augD (x0 :: x1 :: x2 :: x3 :: x :: r) 4 (.int a) (.int b) nx = nx (x0 :: x1 :: x2 :: x3 :: some (.int (a + b)) :: r) := (rfl)
@[simp] theorem appPre_own5 {S : Store} {r : Env} {x0 x1 x2 x3 x4 : Option D} {xs : List D} : appPre (x0 :: x1 :: x2 :: x3 :: x4 :: some (.own xs) :: r) 5 S = true := (rfl)
@[simp] theorem appD_own5 {S : Store} {r : Env} {x0 x1 x2 x3 x4 : Option D} {xs : List D} {y : D} {nx : Env → Store → Prop} : appD (x0 :: x1 :: x2 :: x3 :: x4 :: some (.own xs) :: r) 5 y S nx = (xs.length < sl ∧ nx (x0 :: x1 :: x2 :: x3 :: x4 :: some (.own (xs ++ [y])) :: r) S) := (rfl)
@[simp] theorem retvD_own5 {S : Store} {r : Env} {x0 x1 x2 x3 x4 : Option D} {xs : List D} {Q : QD} : retvD (x0 :: x1 :: x2 :: x3 :: x4 :: some (.own xs) :: r) 5 S Q = Q (.lst xs) S := (rfl)
@[simp] theorem setIx_own5 {S : Store} {r : Env} {x0 x1 x2 x3 x4 : Option D} {xs : List D} {iv v : D} {K : Env → Store → Prop} : setIxD (x0 :: x1 :: x2 :: x3 :: x4 :: some (.own xs) :: r) 5 iv v S K = setL xs iv v fun ys => K (x0 :: x1 :: x2 :: x3 :: x4 :: some (.own ys) :: r) S := (rfl)
@[simp] theorem augD_5 {S : Store} {r : Env} {x0 x1 x2 x3 x4 : Option D} {a b : Int} {x : Option D} {nx : Env → Prop} : augD (x0 :: x1 :: x2 :: x3 :: x4 :: x :: r) 5 (.int a) (.int b) nx = nx (x0 :: x1 :: x2 :: x3 :: x4 :: some (.int (a + b)) :: r) := (rfl)
@[simp] theorem appPre_own6 {S : Store} {r : Env} {x0 x1 x2 x3 x4 x5 : Option D} {xs : List D} : appPre (x0 :: x1 :: x2 :: x3 :: x4 :: x5 :: some (.own xs) :: r) 6 S = true := (rfl)
@[simp] theorem appD_own6 {S : Store} {r : Env} {x0 x1 x2 x3 x4 x5 : Option D} {xs : List D} {y : D} {nx : Env → Store → Prop} : appD (x0 :: x1 :: x2 :: x3 :: x4 :: x5 :: some (.own xs) :: r) 6 y S nx = (xs.length < sl ∧ nx (x0 :: x1 :: x2 :: x3 :: x4 :: x5 :: some (.own (xs ++ [y])) :: r) S) := (rfl)
@[simp] theorem retvD_own6 {S : Store} {r : Env} {x0 x1 x2 x3 x4 x5 : Option D} {xs : List D} {Q : QD} : retvD (x0 :: x1 :: x2 :: x3 :: x4 :: x5 :: some (.own xs) :: r) 6 S Q = Q (.lst xs) S := (rfl)
@[simp] theorem setIx_own6 {S : Store} {r : Env} {x0 x1 x2 x3 x4 x5 : Option D} {xs : List D} {iv v : D} {K : Env → Store → Prop} : setIxD (x0 :: x1 :: x2 :: x3 :: x4 :: x5 :: some (.own xs) :: r) 6 iv v S K = setL xs iv v fun ys => K (x0 :: x1 :: x2 :: x3 :: x4 :: x5 :: some (.own ys) :: r) S := (rfl)
@[simp] theorem augD_6 {S : Store} {r : Env} {x0 x1 x2 x3 x4 x5 : Option D} {a b : Int} {x : Option D} {nx : Env → Prop} : augD (x0 :: x1 :: x2 :: x3 :: x4 :: x5 :: x :: r) 6 (.int a) (.int b) nx = nx (x0 :: x1 :: x2 :: x3 :: x4 :: x5 :: some (.int (a + b)) :: r) := (rfl)
@[simp] theorem appPre_own7 {S : Store} {r : Env} {x0 x1 x2 x3 x4 x5 x6 : Option D} {xs : List D} : appPre (x0 :: x1 :: x2 :: x3 :: x4 :: x5 :: x6 :: some (.own xs) :: r) 7 S = true := (rfl)
@[simp] theorem appD_own7 {S : Store} {r : Env} {x0 x1 x2 x3 x4 x5 x6 : Option D} {xs : List D} {y : D} {nx : Env → Store → Prop} : appD (x0 :: x1 :: x2 :: x3 :: x4 :: x5 :: x6 :: some (.own xs) :: r) 7 y S nx = (xs.length < sl ∧ nx (x0 :: x1 :: x2 :: x3 :: x4 :: x5 :: x6 :: some (.own (xs ++ [y])) :: r) S) := (rfl)
@[simp] theorem retvD_own7 {S : Store} {r : Env} {x0 x1 x2 x3 x4 x5 x6 : Option D} {xs : List D} {Q : QD} : retvD (x0 :: x1 :: x2 :: x3 :: x4 :: x5 :: x6 :: some (.own xs) :: r) 7 S Q = Q (.lst xs) S := (rfl)
@[simp] theorem setIx_own7 {S : Store} {r : Env} {x0 x1 x2 x3 x4 x5 x6 : Option D} {xs : List D} {iv v : D} {K : Env → Store → Prop} : setIxD (x0 :: x1 :: x2 :: x3 :: x4 :: x5 :: x6 :: some (.own xs) :: r) 7 iv v S K = setL xs iv v fun ys => K (x0 :: x1 :: x2 :: x3 :: x4 :: x5 :: x6 :: some (.own ys) :: r) S := (rfl)
@[simp] theorem augD_7 {S : Store} {r : Env} {x0 x1 x2 x3 x4 x5 x6 : Option D} {a b : Int} {x : Option D} {nx : Env → Prop} : augD (x0 :: x1 :: x2 :: x3 :: x4 :: x5 :: x6 :: x :: r) 7 (.int a) (.int b) nx = nx (x0 :: x1 :: x2 :: x3 :: x4 :: x5 :: x6 :: some (.int (a + b)) :: r) := (rfl)
@[simp] theorem appPre_own8 {S : Store} {r : Env} {x0 x1 x2 x3 x4 x5 x6 x7 : Option D} {xs : List D} : appPre (x0 :: x1 :: x2 :: x3 :: x4 :: x5 :: x6 :: x7 :: some (.own xs) :: r) 8 S = true := (rfl)
@[simp] theorem appD_own8 {S : Store} {r : Env} {x0 x1 x2 x3 x4 x5 x6 x7 : Option D} {xs : List D} {y : D} {nx : Env → Store → Prop} : appD (x0 :: x1 :: x2 :: x3 :: x4 :: x5 :: x6 :: x7 :: some (.own xs) :: r) 8 y S nx = (xs.length < sl ∧ nx (x0 :: x1 :: x2 :: x3 :: x4 :: x5 :: x6 :: x7 :: some (.own (xs ++ [y])) :: r) S) := (rfl)
@[simp] theorem retvD_own8 {S : Store} {r : Env} {x0 x1 x2 x3 x4 x5 x6 x7 : Option D} {xs : List D} {Q : QD} : retvD (x0 :: x1 :: x2 :: x3 :: x4 :: x5 :: x6 :: x7 :: some (.own xs) :: r) 8 S Q = Q (.lst xs) S := (rfl)
@[simp] theorem setIx_own8 {S : Store} {r : Env} {x0 x1 x2 x3 x4 x5 x6 x7 : Option D} {xs : List D} {iv v : D} {K : Env → Store → Prop} : setIxD (x0 :: x1 :: x2 :: x3 :: x4 :: x5 :: x6 :: x7 :: some (.own xs) :: r) 8 iv v S K = setL xs iv v fun ys => K (x0 :: x1 :: x2 :: x3 :: x4 :: x5 :: x6 :: x7 :: some (.own ys) :: r) S := (rfl)
@[simp] theorem augD_8 {S : Store} {r : Env} {x0 x1 x2 x3 x4 x5 x6 x7 : Option D} {a b : Int} {x : Option D} {nx : Env → Prop} : augD (x0 :: x1 :: x2 :: x3 :: x4 :: x5 :: x6 :: x7 :: x :: r) 8 (.int a) (.int b) nx = nx (x0 :: x1 :: x2 :: x3 :: x4 :: x5 :: x6 :: x7 :: some (.int (a + b)) :: r) := (rfl)
@[simp] theorem appPre_own9 {S : Store} {r : Env} {x0 x1 x2 x3 x4 x5 x6 x7 x8 : Option D} {xs : List D} : appPre (x0 :: x1 :: x2 :: x3 :: x4 :: x5 :: x6 :: x7 :: x8 :: some (.own xs) :: r) 9 S = true := (rfl)
@[simp] theorem appD_own9 {S : Store} {r : Env} {x0 x1 x2 x3 x4 x5 x6 x7 x8 : Option D} {xs : List D} {y : D} {nx : Env → Store → Prop} : appD (x0 :: x1 :: x2 :: x3 :: x4 :: x5 :: x6 :: x7 :: x8 :: some (.own xs) :: r) 9 y S nx = (xs.length < sl ∧ nx (x0 :: x1 :: x2 :: x3 :: x4 :: x5 :: x6 :: x7 :: x8 :: some (.own (xs ++ [y])) :: r) S) := (rfl)
@[simp] theorem retvD_own9 {S : Store} {r : Env} {x0 x1 x2 x3 x4 x5 x6 x7 x8 : Option D} {xs : List D} {Q : QD} : retvD (x0 :: x1 :: x2 :: x3 :: x4 :: x5 :: x6 :: x7 :: x8 :: some (.own xs) :: r) 9 S Q = Q (.lst xs) S := (rfl)
@[simp] theorem setIx_own9 {S : Store} {r : Env} {x0 x1 x2 x3 x4 x5 x6 x7 x8 : Option D} {xs : List D} {iv v : D} {K : Env → Store → Prop} : setIxD (x0 :: x1 :: x2 :: x3 :: x4 :: x5 :: x6 :: x7 :: x8 :: some (.own xs) :: r) 9 iv v S K = setL xs iv v fun ys => K (x0 :: x1 :: x2 :: x3 :: x4 :: x5 :: x6 :: x7 :: x8 :: some (.own ys) :: r) S := (rfl)
@[simp] theorem augD_9 {S : Store} {r : Env} {x0 x1 x2 x3 x4 x5 x6 x7 x8 : Option D} {a b : Int} {x : Option D} {nx : Env → Prop} : augD (x0 :: x1 :: x2 :: x3 :: x4 :: x5 :: x6 :: x7 :: x8 :: x :: r) 9 (.int a) (.int b) nx = nx (x0 :: x1 :: x2 :: x3 :: x4 :: x5 :: x6 :: x7 :: x8 :: some (.int (a + b)) :: r) := (rfl)
@[simp] theorem appPre_own10 {S : Store} {r : Env} {x0 x1 x2 x3 x4 x5 x6 x7 x8 x9 : Option D} {xs : List D} : appPre (x0 :: x1 :: x2 :: x3 :: x4 :: x5 :: x6 :: x7 :: x8 :: x9 :: some (.own xs) :: r) 10 S = true := (rfl)
@[simp] theorem appD_own10 {S : Store} {r : Env} {x0 x1 x2 x3 x4 x5 x6 x7 x8 x9 : Option D} {xs : List D} {y : D} {nx : Env → Store → Prop} : appD (x0 :: x1 :: x2 :: x3 :: x4 :: x5 :: x6 :: x7 :: x8 :: x9 :: some (.own xs) :: r) 10 y S nx = (xs.length < sl ∧ nx (x0 :: x1 :: x2 :: x3 :: x4 :: x5 :: x6 :: x7 :: x8 :: x9 :: some (.own (xs ++ [y])) :: r) S) := (rfl)
@[simp] theorem retvD_own10 {S : Store} {r : Env} {x0 x1 x2 x3 x4 x5 x6 x7 x8 x9 : Option D} {xs : List D} {Q : QD} : retvD (x0 :: x1 :: x2 :: x3 :: x4 :: x5 :: x6 :: x7 :: x8 :: x9 :: some (.own xs) :: r) 10 S Q = Q (.lst xs) S := (rfl)
@[simp] theorem setIx_own10 {S : Store} {r : Env} {x0 x1 x2 x3 x4 x5 x6 x7 x8 x9 : Option D} {xs : List D} {iv v : D} {K : Env → Store → Prop} : setIxD (x0 :: x1 :: x2 :: x3 :: x4 :: x5 :: x6 :: x7 :: x8 :: x9 :: some (.own xs) :: r) 10 iv v S K = setL xs iv v fun ys => K (x0 :: x1 :: x2 :: x3 :: x4 :: x5 :: x6 :: x7 :: x8 :: x9 :: some (.own ys) :: r) S := (rfl)
@[simp] theorem augD_10 {S : Store} {r : Env} {x0 x1 x2 x3 x4 x5 x6 x7 x8 x9 : Option D} {a b : Int} {x : Option D} {nx : Env → Prop} : augD (x0 :: x1 :: x2 :: x3 :: x4 :: x5 :: x6 :: x7 :: x8 :: x9 :: x :: r) 10 (.int a) (.int b) nx = nx (x0 :: x1 :: x2 :: x3 :: x4 :: x5 :: x6 :: x7 :: x8 :: x9 :: some (.int (a + b)) :: r) := (rfl)
@[simp] theorem appPre_own11 {S : Store} {r : Env} {x0 x1 x2 x3 x4 x5 x6 x7 x8 x9 x10 : Option D} {xs : List D} : appPre (x0 :: x1 :: x2 :: x3 :: x4 :: x5 :: x6 :: x7 :: x8 :: x9 :: x10 :: some (.own xs) :: r) 11 S = true := (rfl)
@[simp] theorem appD_own11 {S : Store} {r : Env} {x0 x1 x2 x3 x4 x5 x6 x7 x8 x9 x10 : Option D} {xs : List D} {y : D} {nx : Env → Store → Prop} : appD (x0 :: x1 :: x2 :: x3 :: x4 :: x5 :: x6 :: x7 :: x8 :: x9 :: x10 :: some (.own xs) :: r) 11 y S nx = (xs.length < sl ∧ nx (x0 :: x1 :: x2 :: x3 :: x4 :: x5 :: x6 :: x7 :: x8 :: x9 :: x10 :: some (.own (xs ++ [y])) :: r) S) := (rfl)
@[simp] theorem retvD_own11 {S : Store} {r : Env} {x0 x1 x2 x3 x4 x5 x6 x7 x8 x9 x10 : Option D} {xs : List D} {Q : QD} : retvD (x0 :: x1 :: x2 :: x3 :: x4 :: x5 :: x6 :: x7 :: x8 :: x9 :: x10 :: some (.own xs) :: r) 11 S Q = Q (.lst xs) S := (rfl)
@[simp] theorem setIx_own11 {S : Store} {r : Env} {x0 x1 x2 x3 x4 x5 x6 x7 x8 x9 x10 : Option D} {xs : List D} {iv v : D} {K : Env → Store → Prop} : setIxD (x0 :: x1 :: x2 :: x3 :: x4 :: x5 :: x6 :: x7 :: x8 :: x9 :: x10 :: some (.own xs) :: r) 11 iv v S K = setL xs iv v fun ys => K (x0 :: x1 :: x2 :: x3 :: x4 :: x5 :: x6 :: x7 :: x8 :: x9 :: x10 :: some (.own ys) :: r) S := (rfl)
@[simp] theorem augD_11 {S : Store} {r : Env} {x0 x1 x2 x3 x4 x5 x6 x7 x8 x9 x10 : Option D} {a b : Int} {x : Option D} {nx : Env → Prop} : augD (x0 :: x1 :: x2 :: x3 :: x4 :: x5 :: x6 :: x7 :: x8 :: x9 :: x10 :: x :: r) 11 (.int a) (.int b) nx = nx (x0 :: x1 :: x2 :: x3 :: x4 :: x5 :: x6 :: x7 :: x8 :: x9 :: x10 :: some (.int (a + b)) :: r) := (rfl)
@[simp] theorem appPre_own12 {S : Store} {r : Env} {x0 x1 x2 x3 x4 x5 x6 x7 x8 x9 x10 x11 : Option D} {xs : List D} : appPre (x0 :: x1 :: x2 :: x3 :: x4 :: x5 :: x6 :: x7 :: x8 :: x9 :: x10 :: x11 :: some (.own xs) :: r) 12 S = true := (rfl)
@[simp] theorem appD_own12 {S : Store} {r : Env} {x0 x1 x2 x3 x4 x5 x6 x7 x8 x9 x10 x11 : Option D} {xs : List D} {y : D} {nx : Env → Store → Prop} : appD (x0 :: x1 :: x2 :: x3 :: x4 :: x5 :: x6 :: x7 :: x8 :: x9 :: x10 :: x11 :: some (.own xs) :: r) 12 y S nx = (xs.length < sl ∧ nx (x0 :: x1 :: x2 :: x3 :: x4 :: x5 :: x6 :: x7 :: x8 :: x9 :: x10 :: x11 :: some (.own (xs ++ [y])) :: r) S) := (rfl)
@[simp] theorem retvD_own12 {S : Store} {r : Env} {x0 x1 x2 x3 x4 x5 x6 x7 x8 x9 x10 x11 : Option D} {xs : List D} {Q : QD} : retvD (x0 :: x1 :: x2 :: x3 :: x4 :: x5 :: x6 :: x7 :: x8 :: x9 :: x10 :: x11 :: some (.own xs) :: r) 12 S Q = Q (.lst xs) S := (rfl)
@[simp] theorem setIx_own12 {S : Store} {r : Env} {x0 x1 x2 x3 x4 x5 x6 x7 x8 x9 x10 x11 : Option D} {xs : List D} {iv v : D} {K : Env → Store → Prop} : setIxD (x0 :: x1 :: x2 :: x3 :: x4 :: x5 :: x6 :: x7 :: x8 :: x9 :: x10 :: x11 :: some (.own xs) :: r) 12 iv v S K = setL xs iv v fun ys => K (x0 :: x1 :: x2 :: x3 :: x4 :: x5 :: x6 :: x7 :: x8 :: x9 :: x10 :: x11 :: some (.own ys) :: r) S := (rfl)
@[simp] theorem augD_12 {S : Store} {r : Env} {x0 x1 x2 x3 x4 x5 x6 x7 x8 x9 x10 x11 : Option D} {a b : Int} {x : Option D} {nx : Env → Prop} : augD (x0 :: x1 :: x2 :: x3 :: x4 :: x5 :: x6 :: x7 :: x8 :: x9 :: x10 :: x11 :: x :: r) 12 (.int a) (.int b) nx = nx (x0 :: x1 :: x2 :: x3 :: x4 :: x5 :: x6 :: x7 :: x8 :: x9 :: x10 :: x11 :: some (.int (a + b)) :: r) := (rfl)
@[simp] theorem appPre_own13 {S : Store} {r : Env} {x0 x1 x2 x3 x4 x5 x6 x7 x8 x9 x10 x11 x12 : Option D} {xs : List D} : appPre (x0 :: x1 :: x2 :: x3 :: x4 :: x5 :: x6 :: x7 :: x8 :: x9 :: x10 :: x11 :: x12 :: some (.own xs) :: r) 13 S = true := (rfl)
@[simp] theorem appD_own13 {S : Store} {r : Env} {x0 x1 x2 x3 x4 x5 x6 x7 x8 x9 x10 x11 x12 : Option D} {xs : List D} {y : D} {nx : Env → Store → Prop} : appD (x0 :: x1 :: x2 :: x3 :: x4 :: x5 :: x6 :: x7 :: x8 :: x9 :: x10 :: x11 :: x12 :: some (.own xs) :: r) 13 y S nx = (xs.length < sl ∧ nx (x0 :: x1 :: x2 :: x3 :: x4 :: x5 :: x6 :: x7 :: x8 :: x9 :: x10 :: x11 :: x12 :: some (.own (xs ++ [y])) :: r) S) := (rfl)
@[simp] theorem retvD_own13 {S : Store} {r : Env} {x0 x1 x2 x3 x4 x5 x6 x7 x8 x9 x10 x11 x12 : Option D} {xs : List D} {Q : QD} : retvD (x0 :: x1 :: x2 :: x3 :: x4 :: x5 :: x6 :: x7 :: x8 :: x9 :: x10 :: x11 :: x12 :: some (.own xs) :: r) 13 S Q = Q (.lst xs) S := (rfl)
@[simp] theorem setIx_own13 {S : Store} {r : Env} {x0 x1 x2 x3 x4 x5 x6 x7 x8 x9 x10 x11 x12 : Option D} {xs : List D} {iv v : D} {K : Env → Store → Prop} : setIxD (x0 :: x1 :: x2 :: x3 :: x4 :: x5 :: x6 :: x7 :: x8 :: x9 :: x10 :: x11 :: x12 :: some (.own xs) :: r) 13 iv v S K = setL xs iv v fun ys => K (x0 :: x1 :: x2 :: x3 :: x4 :: x5 :: x6 :: x7 :: x8 :: x9 :: x10 :: x11 :: x12 :: some (.own ys) :: r) S := (rfl)
@[simp] theorem augD_13 {S : Store} {r : Env} {x0 x1 x2 x3 x4 x5 x6 x7 x8 x9 x10 x11 x12 : Option D} {a b : Int} {x : Option D} {nx : Env → Prop} : augD (x0 :: x1 :: x2 :: x3 :: x4 :: x5 :: x6 :: x7 :: x8 :: x9 :: x10 :: x11 :: x12 :: x :: r) 13 (.int a) (.int b) nx = nx (x0 :: x1 :: x2 :: x3 :: x4 :: x5 :: x6 :: x7 :: x8 :: x9 :: x10 :: x11 :: x12 :: some (.int (a + b)) :: r) := (rfl)
@[simp] theorem appPre_own14 {S : Store} {r : Env} {x0 x1 x2 x3 x4 x5 x6 x7 x8 x9 x10 x11 x12 x13 : Option D} {xs : List D} : appPre (x0 :: x1 :: x2 :: x3 :: x4 :: x5 :: x6 :: x7 :: x8 :: x9 :: x10 :: x11 :: x12 :: x13 :: some (.own xs) :: r) 14 S = true := (rfl)
@[simp] theorem appD_own14 {S : Store} {r : Env} {x0 x1 x2 x3 x4 x5 x6 x7 x8 x9 x10 x11 x12 x13 : Option D} {xs : List D} {y : D} {nx : Env → Store → Prop} : appD (x0 :: x1 :: x2 :: x3 :: x4 :: x5 :: x6 :: x7 :: x8 :: x9 :: x10 :: x11 :: x12 :: x13 :: some (.own xs) :: r) 14 y S nx = (xs.length < sl ∧ nx (x0 :: x1 :: x2 :: x3 :: x4 :: x5 :: x6 :: x7 :: x8 :: x9 :: x10 :: x11 :: x12 :: x13 :: some (.own (xs ++ [y])) :: r) S) := (rfl)
@[simp] theorem retvD_own14 {S : Store} {r : Env} {x0 x1 x2 x3 x4 x5 x6 x7 x8 x9 x10 x11 x12 x13 : Option D} {xs : List D} {Q : QD} : retvD (x0 :: x1 :: x2 :: x3 :: x4 :: x5 :: x6 :: x7 :: x8 :: x9 :: x10 :: x11 :: x12 :: x13 :: some (.own xs) :: r) 14 S Q = Q (.lst xs) S := (rfl)
@[simp] theorem setIx_own14 {S : Store} {r : Env} {x0 x1 x2 x3 x4 x5 x6 x7 x8 x9 x10 x11 x12 x13 : Option D} {xs : List D} {iv v : D} {K : Env → Store → Prop} : setIxD (x0 :: x1 :: x2 :: x3 :: x4 :: x5 :: x6 :: x7 :: x8 :: x9 :: x10 :: x11 :: x12 :: x13 :: some (.own xs) :: r) 14 iv v S K = setL xs iv v fun ys => K (x0 :: x1 :: x2 :: x3 :: x4 :: x5 :: x6 :: x7 :: x8 :: x9 :: x10 :: x11 :: x12 :: x13 :: some (.own ys) :: r) S := (rfl)
@[simp] theorem augD_14 {S : Store} {r : Env} {x0 x1 x2 x3 x4 x5 x6 x7 x8 x9 x10 x11 x12 x13 : Option D} {a b : Int} {x : Option D} {nx : Env → Prop} : augD (x0 :: x1 :: x2 :: x3 :: x4 :: x5 :: x6 :: x7 :: x8 :: x9 :: x10 :: x11 :: x12 :: x13 :: x :: r) 14 (.int a) (.int b) nx = nx (x0 :: x1 :: x2 :: x3 :: x4 :: x5 :: x6 :: x7 :: x8 :: x9 :: x10 :: x11 :: x12 :: x13 :: some (.int (a + b)) :: r) := (rfl)
@[simp] theorem appPre_own15 {S : Store} {r : Env} {x0 x1 x2 x3 x4 x5 x6 x7 x8 x9 x10 x11 x12 x13 x14 : Option D} {xs : List D} : appPre (x0 :: x1 :: x2 :: x3 :: x4 :: x5 :: x6 :: x7 :: x8 :: x9 :: x10 :: x11 :: x12 :: x13 :: x14 :: some (.own xs) :: r) 15 S = true := (rfl)
@[simp] theorem appD_own15 {S : Store} {r : Env} {x0 x1 x2 x3 x4 x5 x6 x7 x8 x9 x10 x11 x12 x13 x14 : Option D} {xs : List D} {y : D} {nx : Env → Store → Prop} : appD (x0 :: x1 :: x2 :: x3 :: x4 :: x5 :: x6 :: x7 :: x8 :: x9 :: x10 :: x11 :: x12 :: x13 :: x14 :: some (.own xs) :: r) 15 y S nx = (xs.length < sl ∧ nx (x0 :: x1 :: x2 :: x3 :: x4 :: x5 :: x6 :: x7 :: x8 :: x9 :: x10 :: x11 :: x12 :: x13 :: x14 :: some (.own (xs ++ [y])) :: r) S) := (rfl)
@[simp] theorem retvD_own15 {S : Store} {r : Env} {x0 x1 x2 x3 x4 x5 x6 x7 x8 x9 x10 x11 x12 x13 x14 : Option D} {xs : List D} {Q : QD} : retvD (x0 :: x1 :: x2 :: x3 :: x4 :: x5 :: x6 :: x7 :: x8 :: x9 :: x10 :: x11 :: x12 :: x13 :: x14 :: some (.own xs) :: r) 15 S Q = Q (.lst xs) S := (rfl)
@[simp] theorem setIx_own15 {S : Store} {r : Env} {x0 x1 x2 x3 x4 x5 x6 x7 x8 x9 x10 x11 x12 x13 x14 : Option D} {xs : List D} {iv v : D} {K : Env → Store → Prop} : setIxD (x0 :: x1 :: x2 :: x3 :: x4 :: x5 :: x6 :: x7 :: x8 :: x9 :: x10 :: x11 :: x12 :: x13 :: x14 :: some (.own xs) :: r) 15 iv v S K = setL xs iv v fun ys => K (x0 :: x1 :: x2 :: x3 :: x4 :: x5 :: x6 :: x7 :: x8 :: x9 :: x10 :: x11 :: x12 :: x13 :: x14 :: some (.own ys) :: r) S := (rfl)
@[simp] theorem augD_15 {S : Store} {r : Env} {x0 x1 x2 x3 x4 x5 x6 x7 x8 x9 x10 x11 x12 x13 x14 : Option D} {a b : Int} {x : Option D} {nx : Env → Prop} : augD (x0 :: x1 :: x2 :: x3 :: x4 :: x5 :: x6 :: x7 :: x8 :: x9 :: x10 :: x11 :: x12 :: x13 :: x14 :: x :: r) 15 (.int a) (.int b) nx = nx (x0 :: x1 :: x2 :: x3 :: x4 :: x5 :: x6 :: x7 :: x8 :: x9 :: x10 :: x11 :: x12 :: x13 :: x14 :: some (.int (a + b)) :: r) := (rfl)
@[simp] theorem appPre_own16 {S : Store} {r : Env} {x0 x1 x2 x3 x4 x5 x6 x7 x8 x9 x10 x11 x12 x13 x14 x15 : Option D} {xs : List D} : appPre (x0 :: x1 :: x2 :: x3 :: x4 :: x5 :: x6 :: x7 :: x8 :: x9 :: x10 :: x11 :: x12 :: x13 :: x14 :: x15 :: some (.own xs) :: r) 16 S = true := (rfl)
@[simp] theorem appD_own16 {S : Store} {r : Env} {x0 x1 x2 x3 x4 x5 x6 x7 x8 x9 x10 x11 x12 x13 x14 x15 : Option D} {xs : List D} {y : D} {nx : Env → Store → Prop} : appD (x0 :: x1 :: x2 :: x3 :: x4 :: x5 :: x6 :: x7 :: x8 :: x9 :: x10 :: x11 :: x12 :: x13 :: x14 :: x15 :: some (.own xs) :: r) 16 y S nx = (xs.length < sl ∧ nx (x0 :: x1 :: x2 :: x3 :: x4 :: x5 :: x6 :: x7 :: x8 :: x9 :: x10 :: x11 :: x12 :: x13 :: x14 :: x15 :: some (.own (xs ++ [y])) :: r) S) := (rfl)
@[simp] theorem retvD_own16 {S : Store} {r : Env} {x0 x1 x2 x3 x4 x5 x6 x7 x8 x9 x10 x11 x12 x13 x14 x15 : Option D} {xs : List D} {Q : QD} : retvD (x0 :: x1 :: x2 :: x3 :: x4 :: x5 :: x6 :: x7 :: x8 :: x9 :: x10 :: x11 :: x12 :: x13 :: x14 :: x15 :: some (.own xs) :: r) 16 S Q = Q (.lst xs) S := (rfl)
@[simp] theorem setIx_own16 {S : Store} {r : Env} {x0 x1 x2 x3 x4 x5 x6 x7 x8 x9 x10 x11 x12 x13 x14 x15 : Option D} {xs : List D} {iv v : D} {K : Env → Store → Prop} : setIxD (x0 :: x1 :: x2 :: x3 :: x4 :: x5 :: x6 :: x7 :: x8 :: x9 :: x10 :: x11 :: x12 :: x13 :: x14 :: x15 :: some (.own xs) :: r) 16 iv v S K = setL xs iv v fun ys => K (x0 :: x1 :: x2 :: x3 :: x4 :: x5 :: x6 :: x7 :: x8 :: x9 :: x10 :: x11 :: x12 :: x13 :: x14 :: x15 :: some (.own ys) :: r) S := (rfl)
@[simp] theorem augD_16 {S : Store} {r : Env} {x0 x1 x2 x3 x4 x5 x6 x7 x8 x9 x10 x11 x12 x13 x14 x15 : Option D} {a b : Int} {x : Option D} {nx : Env → Prop} : augD (x0 :: x1 :: x2 :: x3 :: x4 :: x5 :: x6 :: x7 :: x8 :: x9 :: x10 :: x11 :: x12 :: x13 :: x14 :: x15 :: x :: r) 16 (.int a) (.int b) nx = nx (x0 :: x1 :: x2 :: x3 :: x4 :: x5 :: x6 :: x7 :: x8 :: x9 :: x10 :: x11 :: x12 :: x13 :: x14 :: x15 :: some (.int (a + b)) :: r) := (rfl)
@[simp] theorem appPre_own17 {S : Store} {r : Env} {x0 x1 x2 x3 x4 x5 x6 x7 x8 x9 x10 x11 x12 x13 x14 x15 x16 : Option D} {xs : List D} : appPre (x0 :: x1 :: x2 :: x3 :: x4 :: x5 :: x6 :: x7 :: x8 :: x9 :: x10 :: x11 :: x12 :: x13 :: x14 :: x15 :: x16 :: some (.own xs) :: r) 17 S = true := (rfl)
@[simp] theorem appD_own17 {S : Store} {r : Env} {x0 x1 x2 x3 x4 x5 x6 x7 x8 x9 x10 x11 x12 x13 x14 x15 x16 : Option D} {xs : List D} {y : D} {nx : Env → Store → Prop} : appD (x0 :: x1 :: x2 :: x3 :: x4 :: x5 :: x6 :: x7 :: x8 :: x9 :: x10 :: x11 :: x12 :: x13 :: x14 :: x15 :: x16 :: some (.own xs) :: r) 17 y S nx = (xs.length < sl ∧ nx (x0 :: x1 :: x2 :: x3 :: x4 :: x5 :: x6 :: x7 :: x8 :: x9 :: x10 :: x11 :: x12 :: x13 :: x14 :: x15 :: x16 :: some (.own (xs ++ [y])) :: r) S) := (rfl)
@[simp] theorem retvD_own17 {S : Store} {r : Env} {x0 x1 x2 x3 x4 x5 x6 x7 x8 x9 x10 x11 x12 x13 x14 x15 x16 : Option D} {xs : List D} {Q : QD} : retvD (x0 :: x1 :: x2 :: x3 :: x4 :: x5 :: x6 :: x7 :: x8 :: x9 :: x10 :: x11 :: x12 :: x13 :: x14 :: x15 :: x16 :: some (.own xs) :: r) 17 S Q = Q (.lst xs) S := (rfl)
@[simp] theorem setIx_own17 {S : Store} {r : Env} {x0 x1 x2 x3 x4 x5 x6 x7 x8 x9 x10 x11 x12 x13 x14 x15 x16 : Option D} {xs : List D} {iv v : D} {K : Env → Store → Prop} : setIxD (x0 :: x1 :: x2 :: x3 :: x4 :: x5 :: x6 :: x7 :: x8 :: x9 :: x10 :: x11 :: x12 :: x13 :: x14 :: x15 :: x16 :: some (.own xs) :: r) 17 iv v S K = setL xs iv v fun ys => K (x0 :: x1 :: x2 :: x3 :: x4 :: x5 :: x6 :: x7 :: x8 :: x9 :: x10 :: x11 :: x12 :: x13 :: x14 :: x15 :: x16 :: some (.own ys) :: r) S := (rfl)
@[simp] theorem augD_17 {S : Store} {r : Env} {x0 x1 x2 x3 x4 x5 x6 x7 x8 x9 x10 x11 x12 x13 x14 x15 x16 : Option D} {a b : Int} {x : Option D} {nx : Env → Prop} : augD (x0 :: x1 :: x2 :: x3 :: x4 :: x5 :: x6 :: x7 :: x8 :: x9 :: x10 :: x11 :: x12 :: x13 :: x14 :: x15 :: x16 :: x :: r) 17 (.int a) (.int b) nx = nx (x0 :: x1 :: x2 :: x3 :: x4 :: x5 :: x6 :: x7 :: x8 :: x9 :: x10 :: x11 :: x12 :: x13 :: x14 :: x15 :: x16 :: some (.int (a + b)) :: r) := (rfl)
@[simp] theorem appPre_own18 {S : Store} {r : Env} {x0 x1 x2 x3 x4 x5 x6 x7 x8 x9 x10 x11 x12 x13 x14 x15 x16 x17 : Option D} {xs : List D} : appPre (x0 :: x1 :: x2 :: x3 :: x4 :: x5 :: x6 :: x7 :: x8 :: x9 :: x10 :: x11 :: x12 :: x13 :: x14 :: x15 :: x16 :: x17 :: some (.own xs) :: r) 18 S = true := (rfl)
@[simp] theorem appD_own18 {S : Store} {r : Env} {x0 x1 x2 x3 x4 x5 x6 x7 x8 x9 x10 x11 x12 x13 x14 x15 x16 x17 : Option D} {xs : List D} {y : D} {nx : Env → Store → Prop} : appD (x0 :: x1 :: x2 :: x3 :: x4 :: x5 :: x6 :: x7 :: x8 :: x9 :: x10 :: x11 :: x12 :: x13 :: x14 :: x15 :: x16 :: x17 :: some (.own xs) :: r) 18 y S nx = (xs.length < sl ∧ nx (x0 :: x1 :: x2 :: x3 :: x4 :: x5 :: x6 :: x7 :: x8 :: x9 :: x10 :: x11 :: x12 :: x13 :: x14 :: x15 :: x16 :: x17 :: some (.own (xs ++ [y])) :: r) S) := (rfl)
@[simp] theorem retvD_own18 {S : Store} {r : Env} {x0 x1 x2 x3 x4 x5 x6 x7 x8 x9 x10 x11 x12 x13 x14 x15 x16 x17 : Option D} {xs : List D} {Q : QD} : retvD (x0 :: x1 :: x2 :: x3 :: x4 :: x5 :: x6 :: x7 :: x8 :: x9 :: x10 :: x11 :: x12 :: x13 :: x14 :: x15 :: x16 :: x17 :: some (.own xs) :: r) 18 S Q = Q (.lst xs) S := (rfl)
@[simp] theorem setIx_own18 {S : Store} {r : Env} {x0 x1 x2 x3 x4 x5 x6 x7 x8 x9 x10 x11 x12 x13 x14 x15 x16 x17 : Option D} {xs : List D} {iv v : D} {K : Env → Store → Prop} : setIxD (x0 :: x1 :: x2 :: x3 :: x4 :: x5 :: x6 :: x7 :: x8 :: x9 :: x10 :: x11 :: x12 :: x13 :: x14 :: x15 :: x16 :: x17 :: some (.own xs) :: r) 18 iv v S K = setL xs iv v fun ys => K (x0 :: x1 :: x2 :: x3 :: x4 :: x5 :: x6 :: x7 :: x8 :: x9 :: x10 :: x11 :: x12 :: x13 :: x14 :: x15 :: x16 :: x17 :: some (.own ys) :: r) S := (rfl)
@[simp] theorem augD_18 {S : Store} {r : Env} {x0 x1 x2 x3 x4 x5 x6 x7 x8 x9 x10 x11 x12 x13 x14 x15 x16 x17 : Option D} {a b : Int} {x : Option D} {nx : Env → Prop} : augD (x0 :: x1 :: x2 :: x3 :: x4 :: x5 :: x6 :: x7 :: x8 :: x9 :: x10 :: x11 :: x12 :: x13 :: x14 :: x15 :: x16 :: x17 :: x :: r) 18 (.int a) (.int b) nx = nx (x0 :: x1 :: x2 :: x3 :: x4 :: x5 :: x6 :: x7 :: x8 :: x9 :: x10 :: x11 :: x12 :: x13 :: x14 :: x15 :: x16 :: x17 :: some (.int (a + b)) :: r) := (rfl)
@[simp] theorem appPre_own19 {S : Store} {r : Env} {x0 x1 x2 x3 x4 x5 x6 x7 x8 x9 x10 x11 x12 x13 x14 x15 x16 x17 x18 : Option D} {xs : List D} : appPre (x0 :: x1 :: x2 :: x3 :: x4 :: x5 :: x6 :: x7 :: x8 :: x9 :: x10 :: x11 :: x12 :: x13 :: x14 :: x15 :: x16 :: x17 :: x18 :: some (.own xs) :: r) 19 S = true := (rfl)
@[simp] theorem appD_own19 {S : Store} {r : Env} {x0 x1 x2 x3 x4 x5 x6 x7 x8 x9 x10 x11 x12 x13 x14 x15 x16 x17 x18 : Option D} {xs : List D} {y : D} {nx : Env → Store → Prop} : appD (x0 :: x1 :: x2 :: x3 :: x4 :: x5 :: x6 :: x7 :: x8 :: x9 :: x10 :: x11 :: x12 :: x13 :: x14 :: x15 :: x16 :: x17 :: x18 :: some (.own xs) :: r) 19 y S nx = (xs.length < sl ∧ nx (x0 :: x1 :: x2 :: x3 :: x4 :: x5 :: x6 :: x7 :: x8 :: x9 :: x10 :: x11 :: x12 :: x13 :: x14 :: x15 :: x16 :: x17 :: x18 :: some (.own (xs ++ [y])) :: r) S) := (rfl)
@[simp] theorem retvD_own19 {S : Store} {r : Env} {x0 x1 x2 x3 x4 x5 x6 x7 x8 x9 x10 x11 x12 x13 x14 x15 x16 x17 x18 : Option D} {xs : List D} {Q : QD} : retvD (x0 :: x1 :: x2 :: x3 :: x4 :: x5 :: x6 :: x7 :: x8 :: x9 :: x10 :: x11 :: x12 :: x13 :: x14 :: x15 :: x16 :: x17 :: x18 :: some (.own xs) :: r) 19 S Q = Q (.lst xs) S := (rfl)
@[simp] theorem setIx_own19 {S : Store} {r : Env} {x0 x1 x2 x3 x4 x5 x6 x7 x8 x9 x10 x11 x12 x13 x14 x15 x16 x17 x18 : Option D} {xs : List D} {iv v : D} {K : Env → Store → Prop} : setIxD (x0 :: x1 :: x2 :: x3 :: x4 :: x5 :: x6 :: x7 :: x8 :: x9 :: x10 :: x11 :: x12 :: x13 :: x14 :: x15 :: x16 :: x17 :: x18 :: some (.own xs) :: r) 19 iv v S K = setL xs iv v fun ys => K (x0 :: x1 :: x2 :: x3 :: x4 :: x5 :: x6 :: x7 :: x8 :: x9 :: x10 :: x11 :: x12 :: x13 :: x14 :: x15 :: x16 :: x17 :: x18 :: some (.own ys) :: r) S := (rfl)
@[simp] theorem augD_19 {S : Store} {r : Env} {x0 x1 x2 x3 x4 x5 x6 x7 x8 x9 x10 x11 x12 x13 x14 x15 x16 x17 x18 : Option D} {a b : Int} {x : Option D} {nx : Env → Prop} : augD (x0 :: x1 :: x2 :: x3 :: x4 :: x5 :: x6 :: x7 :: x8 :: x9 :: x10 :: x11 :: x12 :: x13 :: x14 :: x15 :: x16 :: x17 :: x18 :: x :: r) 19 (.int a) (.int b) nx = nx (x0 :: x1 :: x2 :: x3 :: x4 :: x5 :: x6 :: x7 :: x8 :: x9 :: x10 :: x11 :: x12 :: x13 :: x14 :: x15 :: x16 :: x17 :: x18 :: some (.int (a + b)) :: r) := (rfl)
@[simp] theorem appPre_own20 {S : Store} {r : Env} {x0 x1 x2 x3 x4 x5 x6 x7 x8 x9 x10 x11 x12 x13 x14 x15 x16 x17 x18 x19 : Option D} {xs : List D} : appPre (x0 :: x1 :: x2 :: x3 :: x4 :: x5 :: x6 :: x7 :: x8 :: x9 :: x10 :: x11 :: x12 :: x13 :: x14 :: x15 :: x16 :: x17 :: x18 :: x19 :: some (.own xs) :: r) 20 S = true := (rfl)
@[simp] theorem appD_own20 {S : Store} {r : Env} {x0 x1 x2 x3 x4 x5 x6 x7 x8 x9 x10 x11 x12 x13 x14 x15 x16 x17 x18 x19 : Option D} {xs : List D} {y : D} {nx : Env → Store → Prop} : appD (x0 :: x1 :: x2 :: x3 :: x4 :: x5 :: x6 :: x7 :: x8 :: x9 :: x10 :: x11 :: x12 :: x13 :: x14 :: x15 :: x16 :: x17 :: x18 :: x19 :: some (.own xs) :: r) 20 y S nx = (xs.length < sl ∧ nx (x0 :: x1 :: x2 :: x3 :: x4 :: x5 :: x6 :: x7 :: x8 :: x9 :: x10 :: x11 :: x12 :: x13 :: x14 :: x15 :: x16 :: x17 :: x18 :: x19 :: some (.own (xs ++ [y])) :: r) S) := (rfl)
@[simp] theorem retvD_own20 {S : Store} {r : Env} {x0 x1 x2 x3 x4 x5 x6 x7 x8 x9 x10 x11 x12 x13 x14 x15 x16 x17 x18 x19 : Option D} {xs : List D} {Q : QD} : retvD (x0 :: x1 :: x2 :: x3 :: x4 :: x5 :: x6 :: x7 :: x8 :: x9 :: x10 :: x11 :: x12 :: x13 :: x14 :: x15 :: x16 :: x17 :: x18 :: x19 :: some (.own xs) :: r) 20 S Q = Q (.lst xs) S := (rfl)
@[simp] theorem setIx_own20 {S : Store} {r : Env} {x0 x1 x2 x3 x4 x5 x6 x7 x8 x9 x10 x11 x12 x13 x14 x15 x16 x17 x18 x19 : Option D} {xs : List D} {iv v : D} {K : Env → Store → Prop} : setIxD (x0 :: x1 :: x2 :: x3 :: x4 :: x5 :: x6 :: x7 :: x8 :: x9 :: x10 :: x11 :: x12 :: x13 :: x14 :: x15 :: x16 :: x17 :: x18 :: x19 :: some (.own xs) :: r) 20 iv v S K = setL xs iv v fun ys => K (x0 :: x1 :: x2 :: x3 :: x4 :: x5 :: x6 :: x7 :: x8 :: x9 :: x10 :: x11 :: x12 :: x13 :: x14 :: x15 :: x16 :: x17 :: x18 :: x19 :: some (.own ys) :: r) S := (rfl)
@[simp] theorem augD_20 {S : Store} {r : Env} {x0 x1 x2 x3 x4 x5 x6 x7 x8 x9 x10 x11 x12 x13 x14 x15 x16 x17 x18 x19 : Option D} {a b : Int} {x : Option D} {nx : Env → Prop} : augD (x0 :: x1 :: x2 :: x3 :: x4 :: x5 :: x6 :: x7 :: x8 :: x9 :: x10 :: x11 :: x12 :: x13 :: x14 :: x15 :: x16 :: x17 :: x18 :: x19 :: x :: r) 20 (.int a) (.int b) nx = nx (x0 :: x1 :: x2 :: x3 :: x4 :: x5 :: x6 :: x7 :: x8 :: x9 :: x10 :: x11 :: x12 :: x13 :: x14 :: x15 :: x16 :: x17 :: x18 :: x19 :: some (.int (a + b)) :: r) := (rfl)
@[simp] theorem appPre_own21 {S : Store} {r : Env} {x0 x1 x2 x3 x4 x5 x6 x7 x8 x9 x10 x11 x12 x13 x14 x15 x16 x17 x18 x19 x20 : Option D} {xs : List D} : appPre (x0 :: x1 :: x2 :: x3 :: x4 :: x5 :: x6 :: x7 :: x8 :: x9 :: x10 :: x11 :: x12 :: x13 :: x14 :: x15 :: x16 :: x17 :: x18 :: x19 :: x20 :: some (.own xs) :: r) 21 S = true := (rfl)
@[simp] theorem appD_own21 {S : Store} {r : Env} {x0 x1 x2 x3 x4 x5 x6 x7 x8 x9 x10 x11 x12 x13 x14 x15 x16 x17 x18 x19 x20 : Option D} {xs : List D} {y : D} {nx : Env → Store → Prop} : appD (x0 :: x1 :: x2 :: x3 :: x4 :: x5 :: x6 :: x7 :: x8 :: x9 :: x10 :: x11 :: x12 :: x13 :: x14 :: x15 :: x16 :: x17 :: x18 :: x19 :: x20 :: some (.own xs) :: r) 21 y S nx = (xs.length < sl ∧ nx (x0 :: x1 :: x2 :: x3 :: x4 :: x5 :: x6 :: x7 :: x8 :: x9 :: x10 :: x11 :: x12 :: x13 :: x14 :: x15 :: x16 :: x17 :: x18 :: x19 :: x20 :: some (.own (xs ++ [y])) :: r) S) := (rfl)
@[simp] theorem retvD_own21 {S : Store} {r : Env} {x0 x1 x2 x3 x4 x5 x6 x7 x8 x9 x10 x11 x12 x13 x14 x15 x16 x17 x18 x19 x20 : Option D} {xs : List D} {Q : QD} : retvD (x0 :: x1 :: x2 :: x3 :: x4 :: x5 :: x6 :: x7 :: x8 :: x9 :: x10 :: x11 :: x12 :: x13 :: x14 :: x15 :: x16 :: x17 :: x18 :: x19 :: x20 :: some (.own xs) :: r) 21 S Q = Q (.lst xs) S := (rfl)
@[simp] theorem setIx_own21 {S : Store} {r : Env} {x0 x1 x2 x3 x4 x5 x6 x7 x8 x9 x10 x11 x12 x13 x14 x15 x16 x17 x18 x19 x20 : Option D} {xs : List D} {iv v : D} {K : Env → Store → Prop} : setIxD (x0 :: x1 :: x2 :: x3 :: x4 :: x5 :: x6 :: x7 :: x8 :: x9 :: x10 :: x11 :: x12 :: x13 :: x14 :: x15 :: x16 :: x17 :: x18 :: x19 :: x20 :: some (.own xs) :: r) 21 iv v S K = setL xs iv v fun ys => K (x0 :: x1 :: x2 :: x3 :: x4 :: x5 :: x6 :: x7 :: x8 :: x9 :: x10 :: x11 :: x12 :: x13 :: x14 :: x15 :: x16 :: x17 :: x18 :: x19 :: x20 :: some (.own ys) :: r) S := (rfl)
@[simp] theorem augD_21 {S : Store} {r : Env} {x0 x1 x2 x3 x4 x5 x6 x7 x8 x9 x10 x11 x12 x13 x14 x15 x16 x17 x18 x19 x20 : Option D} {a b : Int} {x : Option D} {nx : Env → Prop} : augD (x0 :: x1 :: x2 :: x3 :: x4 :: x5 :: x6 :: x7 :: x8 :: x9 :: x10 :: x11 :: x12 :: x13 :: x14 :: x15 :: x16 :: x17 :: x18 :: x19 :: x20 :: x :: r) 21 (.int a) (.int b) nx = nx (x0 :: x1 :: x2 :: x3 :: x4 :: x5 :: x6 :: x7 :: x8 :: x9 :: x10 :: x11 :: x12 :: x13 :: x14 :: x15 :: x16 :: x17 :: x18 :: x19 :: x20 :: some (.int (a + b)) :: r) := (rfl)
@[simp] theorem appPre_own22 {S : Store} {r : Env} {x0 x1 x2 x3 x4 x5 x6 x7 x8 x9 x10 x11 x12 x13 x14 x15 x16 x17 x18 x19 x20 x21 : Option D} {xs : List D} : appPre (x0 :: x1 :: x2 :: x3 :: x4 :: x5 :: x6 :: x7 :: x8 :: x9 :: x10 :: x11 :: x12 :: x13 :: x14 :: x15 :: x16 :: x17 :: x18 :: x19 :: x20 :: x21 :: some (.own xs) :: r) 22 S = true := (rfl)
@[simp] theorem appD_own22 {S : Store} {r : Env} {x0 x1 x2 x3 x4 x5 x6 x7 x8 x9 x10 x11 x12 x13 x14 x15 x16 x17 x18 x19 x20 x21 : Option D} {xs : List D} {y : D} {nx : Env → Store → Prop} : appD (x0 :: x1 :: x2 :: x3 :: x4 :: x5 :: x6 :: x7 :: x8 :: x9 :: x10 :: x11 :: x12 :: x13 :: x14 :: x15 :: x16 :: x17 :: x18 :: x19 :: x20 :: x21 :: some (.own xs) :: r) 22 y S nx = (xs.length < sl ∧ nx (x0 :: x1 :: x2 :: x3 :: x4 :: x5 :: x6 :: x7 :: x8 :: x9 :: x10 :: x11 :: x12 :: x13 :: x14 :: x15 :: x16 :: x17 :: x18 :: x19 :: x20 :: x21 :: some (.own (xs ++ [y])) :: r) S) := (rfl)
@[simp] theorem retvD_own22 {S : Store} {r : Env} {x0 x1 x2 x3 x4 x5 x6 x7 x8 x9 x10 x11 x12 x13 x14 x15 x16 x17 x18 x19 x20 x21 : Option D} {xs : List D} {Q : QD} : retvD (x0 :: x1 :: x2 :: x3 :: x4 :: x5 :: x6 :: x7 :: x8 :: x9 :: x10 :: x11 :: x12 :: x13 :: x14 :: x15 :: x16 :: x17 :: x18 :: x19 :: x20 :: x21 :: some (.own xs) :: r) 22 S Q = Q (.lst xs) S := (rfl)
@[simp] theorem setIx_own22 {S : Store} {r : Env} {x0 x1 x2 x3 x4 x5 x6 x7 x8 x9 x10 x11 x12 x13 x14 x15 x16 x17 x18 x19 x20 x21 : Option D} {xs : List D} {iv v : D} {K : Env → Store → Prop} : setIxD (x0 :: x1 :: x2 :: x3 :: x4 :: x5 :: x6 :: x7 :: x8 :: x9 :: x10 :: x11 :: x12 :: x13 :: x14 :: x15 :: x16 :: x17 :: x18 :: x19 :: x20 :: x21 :: some (.own xs) :: r) 22 iv v S K = setL xs iv v fun ys => K (x0 :: x1 :: x2 :: x3 :: x4 :: x5 :: x6 :: x7 :: x8 :: x9 :: x10 :: x11 :: x12 :: x13 :: x14 :: x15 :: x16 :: x17 :: x18 :: x19 :: x20 :: x21 :: some (.own ys) :: r) S := (rfl)
@[simp] theorem augD_22 {S : Store} {r : Env} {x0 x1 x2 x3 x4 x5 x6 x7 x8 x9 x10 x11 x12 x13 x14 x15 x16 x17 x18 x19 x20 x21 : Option D} {a b : Int} {x : Option D} {nx : Env → Prop} : augD (x0 :: x1 :: x2 :: x3 :: x4 :: x5 :: x6 :: x7 :: x8 :: x9 :: x10 :: x11 :: x12 :: x13 :: x14 :: x15 :: x16 :: x17 :: x18 :: x19 :: x20 :: x21 :: x :: r) 22 (.int a) (.int b) nx = nx (x0 :: x1 :: x2 :: x3 :: x4 :: x5 :: x6 :: x7 :: x8 :: x9 :: x10 :: x11 :: x12 :: x13 :: x14 :: x15 :: x16 :: x17 :: x18 :: x19 :: x20 :: x21 :: some (.int (a + b)) :: r) := (rfl)
@[simp] theorem appPre_own23 {S : Store} {r : Env} {x0 x1 x2 x3 x4 x5 x6 x7 x8 x9 x10 x11 x12 x13 x14 x15 x16 x17 x18 x19 x20 x21 x22 : Option D} {xs : List D} : appPre (x0 :: x1 :: x2 :: x3 :: x4 :: x5 :: x6 :: x7 :: x8 :: x9 :: x10 :: x11 :: x12 :: x13 :: x14 :: x15 :: x16 :: x17 :: x18 :: x19 :: x20 :: x21 :: x22 :: some (.own xs) :: r) 23 S = true := (rfl)
@[simp] theorem appD_own23 {S : Store} {r : Env} {x0 x1 x2 x3 x4 x5 x6 x7 x8 x9 x10 x11 x12 x13 x14 x15 x16 x17 x18 x19 x20 x21 x22 : Option D} {xs : List D} {y : D} {nx : Env → Store → Prop} : appD (x0 :: x1 :: x2 :: x3 :: x4 :: x5 :: x6 :: x7 :: x8 :: x9 :: x10 :: x11 :: x12 :: x13 :: x14 :: x15 :: x16 :: x17 :: x18 :: x19 :: x20 :: x21 :: x22 :: some (.own xs) :: r) 23 y S nx = (xs.length < sl ∧ nx (x0 :: x1 :: x2 :: x3 :: x4 :: x5 :: x6 :: x7 :: x8 :: x9 :: x10 :: x11 :: x12 :: x13 :: x14 :: x15 :: x16 :: x17 :: x18 :: x19 :: x20 :: x21 :: x22 :: some (.own (xs ++ [y])) :: r) S) := (rfl)
@[simp] theorem retvD_own23 {S : Store} {r : Env} {x0 x1 x2 x3 x4 x5 x6 x7 x8 x9 x10 x11 x12 x13 x14 x15 x16 x17 x18 x19 x20 x21 x22 : Option D} {xs : List D} {Q : QD} : retvD (x0 :: x1 :: x2 :: x3 :: x4 :: x5 :: x6 :: x7 :: x8 :: x9 :: x10 :: x11 :: x12 :: x13 :: x14 :: x15 :: x16 :: x17 :: x18 :: x19 :: x20 :: x21 :: x22 :: some (.own xs) :: r) 23 S Q = Q (.lst xs) S := (rfl)
@[simp] theorem setIx_own23 {S : Store} {r : Env} {x0 x1 x2 x3 x4 x5 x6 x7 x8 x9 x10 x11 x12 x13 x14 x15 x16 x17 x18 x19 x20 x21 x22 : Option D} {xs : List D} {iv v : D} {K : Env → Store → Prop} : setIxD (x0 :: x1 :: x2 :: x3 :: x4 :: x5 :: x6 :: x7 :: x8 :: x9 :: x10 :: x11 :: x12 :: x13 :: x14 :: x15 :: x16 :: x17 :: x18 :: x19 :: x20 :: x21 :: x22 :: some (.own xs) :: r) 23 iv v S K = setL xs iv v fun ys => K (x0 :: x1 :: x2 :: x3 :: x4 :: x5 :: x6 :: x7 :: x8 :: x9 :: x10 :: x11 :: x12 :: x13 :: x14 :: x15 :: x16 :: x17 :: x18 :: x19 :: x20 :: x21 :: x22 :: some (.own ys) :: r) S := (rfl)
@[simp] theorem augD_23 {S : Store} {r : Env} {x0 x1 x2 x3 x4 x5 x6 x7 x8 x9 x10 x11 x12 x13 x14 x15 x16 x17 x18 x19 x20 x21 x22 : Option D} {a b : Int} {x : Option D} {nx : Env → Prop} : augD (x0 :: x1 :: x2 :: x3 :: x4 :: x5 :: x6 :: x7 :: x8 :: x9 :: x10 :: x11 :: x12 :: x13 :: x14 :: x15 :: x16 :: x17 :: x18 :: x19 :: x20 :: x21 :: x22 :: x :: r) 23 (.int a) (.int b) nx = nx (x0 :: x1 :: x2 :: x3 :: x4 :: x5 :: x6 :: x7 :: x8 :: x9 :: x10 :: x11 :: x12 :: x13 :: x14 :: x15 :: x16 :: x17 :: x18 :: x19 :: x20 :: x21 :: x22 :: some (.int (a + b)) :: r) := (rfl)
theorem nodup_len {α : Type} [DecidableEq α] : ∀ {xs ys : List α}, xs.Nodup → (∀ x ∈ xs, x ∈ ys) → xs.length ≤ ys.length
  | [], ys, _, _ => by simp
  | x :: r, ys, hn, h => by
    have h1 : x ∈ ys := h x List.mem_cons_self
    have h2 : ∀ y ∈ r, y ∈ ys.erase x := fun y hy => by
      have : y ≠ x := fun e => (List.nodup_cons.mp hn).1 (e ▸ hy)
      exact (List.mem_erase_of_ne this).mpr (h y (List.mem_cons_of_mem _ hy))
    have h3 := nodup_len (List.nodup_cons.mp hn).2 h2
    rw [List.length_erase_of_mem h1] at h3
    have : 0 < ys.length := List.length_pos_of_mem h1
    simp only [List.length_cons]; omega
theorem oD_of {α : Type} {o : Option α} {x : α} {k : α → Prop} (h : o = some x) (hk : k x) : oD o k := by rw [h]; exact hk
theorem mulOk_l {i j : Int} (h1 : -(2 ^ 64) < i) (h2 : i < 2 ^ 64) : mulOk i j := .inl (.inl ⟨h1, h2⟩)
theorem mulOk_r {i j : Int} (h1 : -(2 ^ 64) < j) (h2 : j < 2 ^ 64) : mulOk i j := .inl (.inr ⟨h1, h2⟩)
theorem divOk_s {j : Int} (h : 0 < j) (h2 : j < 2 ^ 200) : divOk j := ⟨h, by
  have h3 : j.natAbs < 2 ^ 200 := by omega
  exact Nat.lt_of_lt_of_le h3 (Nat.pow_le_pow_right (by omega) (by omega))⟩
theorem powOk_s {i j : Int} (h1 : 0 ≤ j) (h2 : j ≤ 1000) (h3 : -(2 ^ 60) < i) (h4 : i < 2 ^ 60) : powOk i j := ⟨h1, by omega, by omega⟩
@[simp] theorem powOk10_6 : powOk 10 6 := powOk_s (by omega) (by omega) (by omega) (by omega)
@[simp] theorem powOk10_9 : powOk 10 9 := powOk_s (by omega) (by omega) (by omega) (by omega)
@[simp] theorem powOk10_12 : powOk 10 12 := powOk_s (by omega) (by omega) (by omega) (by omega)
@[simp] theorem powOk10_14 : powOk 10 14 := powOk_s (by omega) (by omega) (by omega) (by omega)
@[simp] theorem powOk10_15 : powOk 10 15 := powOk_s (by omega) (by omega) (by omega) (by omega)
@[simp] theorem powOk10_17 : powOk 10 17 := powOk_s (by omega) (by omega) (by omega) (by omega)
@[simp] theorem powOk10_18 : powOk 10 18 := powOk_s (by omega) (by omega) (by omega) (by omega)
@[simp] theorem powOk10_20 : powOk 10 20 := powOk_s (by omega) (by omega) (by omega) (by omega)
@[simp] theorem powOk10_24 : powOk 10 24 := powOk_s (by omega) (by omega) (by omega) (by omega)
@[simp] theorem powOk10_27 : powOk 10 27 := powOk_s (by omega) (by omega) (by omega) (by omega)
@[simp] theorem powOk10_28 : powOk 10 28 := powOk_s (by omega) (by omega) (by omega) (by omega)
@[simp] theorem powOk10_29 : powOk 10 29 := powOk_s (by omega) (by omega) (by omega) (by omega)
@[simp] theorem powOk10_30 : powOk 10 30 := powOk_s (by omega) (by omega) (by omega) (by omega)
@[simp] theorem powOk10_31 : powOk 10 31 := powOk_s (by omega) (by omega) (by omega) (by omega)
@[simp] theorem powOk10_40 : powOk 10 40 := powOk_s (by omega) (by omega) (by omega) (by omega)
@[simp] theorem cut_map {α β : Type} {f : α → β} {xs : List α} {lo hi : Option Int} : cut (xs.map f) lo hi = (cut xs lo hi).map f := by
  simp [cut, List.map_drop, List.map_take]
theorem cutTo {α : Type} {xs : List α} {i : Nat} (h : i ≤ xs.length) : cut xs none (some (i : Int)) = xs.take i := by
  simp [cut, HT.sIx]
  rw [if_neg (by omega)]
  omega
theorem cutFrom {α : Type} {xs : List α} {i : Nat} (h : i ≤ xs.length) : cut xs (some (i : Int)) none = xs.drop i := by
  simp [cut, HT.sIx]
  rw [if_neg (by omega), Nat.min_eq_left h]
  rw [List.take_of_length_le (by simp)]
theorem range_at {m : Nat} {p q : List Nat} {x : Nat} (e : List.range m = p ++ x :: q) : x = p.length ∧ x < m := by
  have h : (List.range m)[p.length]? = some x := by rw [e]; simp
  have h2 := congrArg List.length e
  simp at h2
  rw [List.getElem?_range (by omega)] at h
  simp at h
  omega
theorem zipIdx_at {α : Type} {xs : List α} {p q : List (α × Nat)} {x : α × Nat} (e : xs.zipIdx = p ++ x :: q) : x.2 = p.length ∧ xs[x.2]? = some x.1 ∧ p.map (·.1) = xs.take x.2 := by
  have h := congrArg (fun l => l[p.length]?) e
  simp at h
  obtain ⟨y, h1, rfl⟩ := h
  refine ⟨rfl, h1, ?_⟩
  have h4 := congrArg (fun l => (l.map (·.1)).take p.length) e
  simp at h4
  exact h4.symm
end Sb
set_option linter.all false
set_option maxRecDepth 20000
set_option autoImplicit false
/-! C3: repr of data. -/
namespace Sb
open PySem
@[simp] theorem boolsD_rep {n : Nat} {b : Bool} : boolsD (List.replicate n (.bool b)) = some (List.replicate n b) := by
  induction n with
  | zero => rfl
  | succ n ih => simp [List.replicate_succ, boolsD, ih]
@[simp] theorem intsD_rep {n : Nat} {b : Int} : intsD (List.replicate n (.int b)) = some (List.replicate n b) := by
  induction n with
  | zero => rfl
  | succ n ih => simp [List.replicate_succ, intsD, ih]
/-- data whose repr is short -/
def RP (d : D) (k b : Nat) : Prop := ∃ p, d.py = some p ∧ p.showable = true ∧ p.leavesShort 99 = true ∧ p.depth ≤ k ∧ p.bulk ≤ b
def shownD (d : D) : Str := match d.py with
  | some p => p.shown
  | none => Str.empty
theorem RP.mono {d : D} {k b k' b' : Nat} (h : RP d k b) (h1 : k ≤ k') (h2 : b ≤ b') : RP d k' b' := by
  obtain ⟨p, a1, a2, a3, a4, a5⟩ := h
  exact ⟨p, a1, a2, a3, by omega, by omega⟩
theorem reprD_of {d : D} {k b : Nat} (h : RP d k b) (h1 : k ≤ 60) (h2 : b ≤ 100000) {Q : D → Prop} (hQ : Q (.str (shownD d))) : reprD d Q := by
  obtain ⟨p, a1, a2, a3, a4, a5⟩ := h
  unfold reprD
  unfold shownD at hQ
  rw [a1] at hQ ⊢
  refine ⟨⟨a2, by omega, ?_⟩, hQ⟩
  have := PyData.shown_le_bulk 99 (by omega) p a3
  simp only [sl]
  omega
theorem log2_lt {n k : Nat} (h : n < 2 ^ k) (hk : 0 < k) : n.log2 < k := by
  by_cases h0 : n = 0
  · subst h0; simpa using hk
  · exact (Nat.log2_lt h0).mpr h
theorem toString_neg_len {v : Int} {k : Nat} (h1 : -(10 ^ k : Int) < v) (h2 : v < 10 ^ k) (hk : 0 < k) : (Str.ofString (toString v)).length ≤ k + 1 := by
  by_cases h0 : 0 ≤ v
  · exact Nat.le_succ_of_le (PyProof.Rows.toString_length_le h0 hk h2)
  · obtain ⟨n, rfl⟩ : ∃ n : Nat, v = -((n + 1 : Nat) : Int) := ⟨(-v - 1).toNat, by omega⟩
    have h3 := PyProof.Rows.toString_length_le (v := ((n + 1 : Nat) : Int)) (by omega) hk (by omega)
    have e : toString (-((n + 1 : Nat) : Int)) = "-" ++ toString ((n + 1 : Nat) : Int) := rfl
    rw [e, PyProof.Rows.ofString_length, String.toList_append, List.length_append]
    rw [PyProof.Rows.ofString_length] at h3
    have : "-".toList.length = 1 := rfl
    omega
theorem rp_int {i : Int} (h1 : -(10 ^ 90 : Int) < i) (h2 : i < 10 ^ 90) : RP (.int i) 0 0 := by
  refine ⟨.int i, rfl, ?_, ?_, ?_, ?_⟩
  · have : i.natAbs < 2 ^ 300 := by omega
    have := log2_lt this (by omega)
    simp only [PyData.showable, decide_eq_true_eq]; omega
  · have := toString_neg_len h1 h2 (by omega)
    simp only [PyData.leavesShort, PyData.shown_int, decide_eq_true_eq]; omega
  · simp [PyData.depth]
  · simp [PyData.bulk]
theorem rp_bool {b : Bool} : RP (.bool b) 0 0 := ⟨.bool b, rfl, by simp [PyData.showable], by simp [PyData.leavesShort], by simp [PyData.depth], by simp [PyData.bulk]⟩
theorem rp_none : RP .none 0 0 := ⟨.none, rfl, by simp [PyData.showable], by simp [PyData.leavesShort], by simp [PyData.depth], by simp [PyData.bulk]⟩
theorem rp_str {s : Str} (h : ∀ c ∈ s.cps.toList, c < 16 ^ 8) : RP (.str s) 0 s.length := by
  refine ⟨.str s, rfl, by simp [PyData.showable], ?_, by simp [PyData.depth], ?_⟩
  · simpa only [PyData.leavesShort, List.all_eq_true, decide_eq_true_eq] using h
  · rw [PyData.bulk]; exact Nat.le_refl _
theorem rp_all {xs : List D} {k b : Nat} (h : ∀ x ∈ xs, RP x k b) : ∃ ps, D.pys xs = some ps ∧ PyData.showableAll ps = true ∧ PyData.leavesShortAll 99 ps = true ∧ PyData.depthAll ps ≤ k ∧ PyData.bulkAll ps ≤ (b + 1) * xs.length := by
  induction xs with
  | nil => exact ⟨[], rfl, by simp [PyData.showableAll], by simp [PyData.leavesShortAll], by simp [PyData.depthAll], by simp [PyData.bulkAll]⟩
  | cons x r ih =>
    obtain ⟨p, a1, a2, a3, a4, a5⟩ := h x List.mem_cons_self
    obtain ⟨ps, b1, b2, b3, b4, b5⟩ := ih fun y hy => h y (List.mem_cons_of_mem _ hy)
    refine ⟨p :: ps, by simp [D.pys, a1, b1], by simp [PyData.showableAll, a2, b2], by simp [PyData.leavesShortAll, a3, b3], by rw [PyData.depthAll]; omega, ?_⟩
    rw [PyData.bulkAll, List.length_cons, Nat.mul_succ]
    omega
theorem rp_lst {xs : List D} {k b : Nat} (h : ∀ x ∈ xs, RP x k b) : RP (.lst xs) (k + 1) ((b + 1) * xs.length) := by
  obtain ⟨ps, b1, b2, b3, b4, b5⟩ := rp_all h
  exact ⟨.list ps, by simp [D.py, b1], by simp [PyData.showable, b2], by simp [PyData.leavesShort, b3], by simp [PyData.depth]; omega, by simpa [PyData.bulk] using b5⟩
theorem rp_tup {xs : List D} {k b : Nat} (h : ∀ x ∈ xs, RP x k b) : RP (.tup xs) (k + 1) ((b + 1) * xs.length) := by
  obtain ⟨ps, b1, b2, b3, b4, b5⟩ := rp_all h
  exact ⟨.tuple ps, by simp [D.py, b1], by simp [PyData.showable, b2], by simp [PyData.leavesShort, b3], by simp [PyData.depth]; omega, by simpa [PyData.bulk] using b5⟩
end Sb
set_option linter.all false
set_option maxRecDepth 20000
set_option autoImplicit false
/-! C4: equality of data that stand for Lean values. -/
namespace Sb
open PySem
/-- f x and f y are equal in Python just if x and y are (for x and y with P) -/
def FE {α : Type} [DecidableEq α] (f : α → D) (P : α → Prop) (k : Nat) : Prop := ∃ g : α → PyData, (∀ x, (f x).py = some (g x)) ∧ (∀ x, P x → (g x).canLay0 = true) ∧ (∀ x, (g x).depth ≤ k) ∧ ∀ x y, PyData.eqv (g x) (g y) = decide (x = y)
abbrev PT {α : Type} : α → Prop := fun _ => True
abbrev PA {α : Type} (P : α → Prop) : List α → Prop := fun xs => ∀ x ∈ xs, P x
theorem fe_int : FE D.int PT 0 := ⟨.int, fun _ => rfl, fun _ _ => by simp [PyData.canLay0], fun _ => by simp [PyData.depth], fun x y => by rw [PyData.eqv]; rfl⟩
theorem fe_str : FE D.str (fun s => PyData.strOk s = true) 0 := ⟨.str, fun _ => rfl, fun _ h => by simpa [PyData.canLay0] using h, fun _ => by simp [PyData.depth], fun x y => by rw [PyData.eqv, Bool.eq_iff_iff]; simp⟩
theorem fe_bool : FE D.bool PT 0 := ⟨.bool, fun _ => rfl, fun _ _ => by simp [PyData.canLay0], fun _ => by simp [PyData.depth], fun x y => by rw [PyData.eqv]; cases x <;> cases y <;> rfl⟩
theorem fe_nat : FE (fun n : Nat => D.int n) PT 0 := ⟨fun n => .int n, fun _ => rfl, fun _ _ => by simp [PyData.canLay0], fun _ => by simp [PyData.depth], fun x y => by
  rw [PyData.eqv, Bool.eq_iff_iff]; simp; omega⟩
section
variable {α β : Type} [DecidableEq α] [DecidableEq β] {f : α → D} {g : β → D} {k j : Nat} {P : α → Prop} {R : β → Prop}
theorem fe_pys {g : α → PyData} (h : ∀ x, (f x).py = some (g x)) : ∀ xs : List α, D.pys (xs.map f) = some (xs.map g)
  | [] => rfl
  | x :: r => by simp [D.pys, h x, fe_pys h r]
theorem fe_lay {g : α → PyData} (h : ∀ x, P x → (g x).canLay0 = true) : ∀ xs : List α, PA P xs → PyData.canLayAll0 (xs.map g) = true
  | [], _ => by simp [PyData.canLayAll0]
  | x :: r, hp => by simp [PyData.canLayAll0, h x (hp x List.mem_cons_self), fe_lay h r fun y hy => hp y (List.mem_cons_of_mem _ hy)]
theorem fe_depth {g : α → PyData} (h : ∀ x, (g x).depth ≤ k) : ∀ xs : List α, PyData.depthAll (xs.map g) ≤ k
  | [] => by simp [PyData.depthAll]
  | x :: r => by
    have := h x
    have := fe_depth h r
    rw [List.map_cons, PyData.depthAll]; omega
theorem fe_eqv {g : α → PyData} (h : ∀ x y, PyData.eqv (g x) (g y) = decide (x = y)) : ∀ xs ys : List α, PyData.eqvAll (xs.map g) (ys.map g) = decide (xs = ys)
  | [], [] => by simp [PyData.eqvAll]
  | [], _ :: _ => by simp [PyData.eqvAll]
  | _ :: _, [] => by simp [PyData.eqvAll]
  | x :: r, y :: q => by
    rw [List.map_cons, List.map_cons, PyData.eqvAll, h, fe_eqv h r q, Bool.eq_iff_iff]; simp
theorem fe_lst (h : FE f P k) : FE (fun xs : List α => D.lst (xs.map f)) (PA P) (k + 1) := by
  obtain ⟨g, h1, h2, h3, h4⟩ := h
  refine ⟨fun xs => .list (xs.map g), fun xs => by simp [D.py, fe_pys h1], fun xs hx => by simp [PyData.canLay0, fe_lay h2 xs hx], fun xs => ?_, fun xs ys => by rw [PyData.eqv, fe_eqv h4]⟩
  have := fe_depth h3 xs
  rw [PyData.depth]; omega
theorem fe_tup (h : FE f P k) : FE (fun xs : List α => D.tup (xs.map f)) (PA P) (k + 1) := by
  obtain ⟨g, h1, h2, h3, h4⟩ := h
  refine ⟨fun xs => .tuple (xs.map g), fun xs => by simp [D.py, fe_pys h1], fun xs hx => by simp [PyData.canLay0, fe_lay h2 xs hx], fun xs => ?_, fun xs ys => by rw [PyData.eqv, fe_eqv h4]⟩
  have := fe_depth h3 xs
  rw [PyData.depth]; omega
theorem fe_pair (h : FE f P k) (h' : FE g R j) : FE (fun p : α × β => D.tup [f p.1, g p.2]) (fun p => P p.1 ∧ R p.2) (max k j + 1) := by
  obtain ⟨u, h1, h2, h3, h4⟩ := h
  obtain ⟨v, h5, h6, h7, h8⟩ := h'
  refine ⟨fun p => .tuple [u p.1, v p.2], fun p => by simp [D.py, D.pys, h1, h5], fun p hp => by simp [PyData.canLay0, PyData.canLayAll0, h2 _ hp.1, h6 _ hp.2], fun p => ?_, fun p q => ?_⟩
  · have := h3 p.1
    have := h7 p.2
    rw [PyData.depth, PyData.depthAll, PyData.depthAll, PyData.depthAll]; omega
  · rw [PyData.eqv, PyData.eqvAll, PyData.eqvAll, PyData.eqvAll, h4, h8, Bool.eq_iff_iff]
    simp [Prod.ext_iff]
theorem fe_lstp (h : FE f P k) (h' : FE g R j) : FE (fun p : α × β => D.lst [f p.1, g p.2]) (fun p => P p.1 ∧ R p.2) (max k j + 1) := by
  obtain ⟨u, h1, h2, h3, h4⟩ := h
  obtain ⟨v, h5, h6, h7, h8⟩ := h'
  refine ⟨fun p => .list [u p.1, v p.2], fun p => by simp [D.py, D.pys, h1, h5], fun p hp => by simp [PyData.canLay0, PyData.canLayAll0, h2 _ hp.1, h6 _ hp.2], fun p => ?_, fun p q => ?_⟩
  · have := h3 p.1
    have := h7 p.2
    rw [PyData.depth, PyData.depthAll, PyData.depthAll, PyData.depthAll]; omega
  · rw [PyData.eqv, PyData.eqvAll, PyData.eqvAll, PyData.eqvAll, h4, h8, Bool.eq_iff_iff]
    simp [Prod.ext_iff]
def eqP (a b : D) : Option Bool := match a.py, b.py with
  | some p, some q => if (SeqAt.shaped p && SeqAt.shaped q) = true then some (PyData.eqv p q) else none
  | _, _ => none
theorem eqD_eqP {a b : D} (h : ∀ x y, a = .str x → b = .str y → False) (h2 : ∀ l, b ≠ .sd l) : eqD a b = eqP a b := by
  unfold eqD
  split
  · exact (h _ _ rfl rfl).elim
  · exact absurd rfl (h2 _)
  · rfl
theorem py_nsd {d : D} {p : PyData} (h : d.py = some p) (hl : p.canLay0 = true) (l : List (Str × Int)) : d ≠ .sd l := fun e => by
  subst e
  cases h
  simp [PyData.canLay0] at hl
theorem eqD_fe (h : FE f P k) (hk : k ≤ 60) {x y : α} (hx : P x) (hy : P y) : eqD (f x) (f y) = some (decide (x = y)) := by
  obtain ⟨g, h1, h2, h3, h4⟩ := h
  by_cases hs : ∃ a b, f x = .str a ∧ f y = .str b
  · obtain ⟨a, b, ea, eb⟩ := hs
    have ha := h1 x
    have hb := h1 y
    have h5 := h4 x y
    rw [ea] at ha
    rw [eb] at hb
    have ha : some (PyData.str a) = some (g x) := ha
    have hb : some (PyData.str b) = some (g y) := hb
    rw [← Option.some.inj ha, ← Option.some.inj hb, PyData.eqv] at h5
    rw [ea, eb, eqD_str, ← h5]
    congr 1
  · rw [eqD_eqP (fun a b ea eb => hs ⟨a, b, ea, eb⟩) (py_nsd (h1 y) (h2 y hy))]
    have a := h3 x
    have b := h3 y
    unfold eqP
    rw [h1, h1]
    simp only
    rw [if_pos (by simp [SeqAt.shaped, h2 x hx, h2 y hy]; omega), h4]
theorem eqF_eqv : ∀ {a b : D} {p q : PyData}, flatD a = true → flatD b = true → a.py = some p → b.py = some q → eqF a b = PyData.eqv p q := by
  intro a b p q ha hb hp hq
  cases a <;> cases b <;> first
    | (cases ha; done)
    | (cases hb; done)
    | (simp only [D.py, Option.some.injEq] at hp hq; subst hp hq; rw [PyData.eqv]; rfl)
    | (simp only [D.py, Option.some.injEq] at hp hq; subst hp hq; simp [PyData.eqv, eqF])
theorem inD_fe (h : FE f P k) (hk : k ≤ 60) {x : α} {ys : List α} (hx : P x) (hy : PA P ys) : inD (f x) (ys.map f) = some (decide (x ∈ ys)) := by
  obtain ⟨g, h1, h2, h3, h4⟩ := h
  have key : ∀ ys : List α, (ys.map g).any (fun z => PyData.eqv z (g x)) = decide (x ∈ ys) := by
    intro ys
    induction ys with
    | nil => simp
    | cons y r ih =>
      rw [List.map_cons, List.any_cons, ih, h4, Bool.eq_iff_iff]
      simp [@eq_comm _ x y]
  unfold inD
  split
  · rename_i hf
    rw [Bool.and_eq_true] at hf
    congr 1
    rw [← key ys, List.any_map, List.any_map]
    have h5 := List.all_eq_true.mp hf.2
    have : ∀ zs : List α, (∀ z ∈ zs, flatD (f z) = true) → zs.any ((fun y => eqF y (f x)) ∘ f) = zs.any ((fun z => PyData.eqv z (g x)) ∘ g) := by
      intro zs hz
      induction zs with
      | nil => rfl
      | cons z r ih =>
        rw [List.any_cons, List.any_cons, ih fun y hy => hz y (List.mem_cons_of_mem _ hy)]
        congr 1
        exact eqF_eqv (hz z List.mem_cons_self) hf.1 (h1 z) (h1 x)
    exact this ys fun z hz => h5 _ (List.mem_map.mpr ⟨z, hz, rfl⟩)
  · rw [if_neg (fun e => by
      rw [Bool.and_eq_true] at e
      have := py_nsd (h1 x) (h2 x hx)
      cases hh : f x <;> rw [hh] at e this <;> first | (cases e.1; done) | exact absurd rfl (this _))]
    rw [h1, fe_pys h1]
    have := h3 x
    simp only
    rw [if_pos (by simp [SeqAt.shaped, h2 x hx, fe_lay h2 ys hy]; omega), key]
end
end Sb
set_option linter.all false
set_option maxRecDepth 20000
set_option autoImplicit false
/-! C5: sorting on data. -/
namespace Sb
open PySem
theorem encL_map : ∀ ds : List D, encL ds = ds.map encD
  | [] => rfl
  | d :: r => by rw [encL, encL_map r]; rfl
theorem plnL_all : ∀ ds : List D, plnL ds = ds.all plnD
  | [] => rfl
  | d :: r => by rw [plnL, plnL_all r]; rfl
theorem encD_ints (xs : List Int) : encL (xs.map .int) = xs.map PyData.int := by
  rw [encL_map, List.map_map]; rfl
theorem pln_ints (xs : List Int) : plnL (xs.map .int) = true := by
  rw [plnL_all, List.all_map]
  simp [plnD]
theorem eqv_ints : ∀ a b : List Int, PyData.eqvAll (a.map PyData.int) (b.map .int) = decide (a = b)
  | [], [] => by simp [PyData.eqvAll]
  | [], _ :: _ => by simp [PyData.eqvAll]
  | _ :: _, [] => by simp [PyData.eqvAll]
  | x :: a, y :: b => by
    have := eqv_ints a b
    simp only [List.map_cons, PyData.eqvAll, PyData.eqv, this]
    by_cases h : x = y <;> simp [h]
theorem dataLt_il (x x' : Int) (y y' : List Int) : PySem.W.dataLt (.tuple [.int x, .list (y.map .int)]) (.tuple [.int x', .list (y'.map .int)]) = decide (x < x' ∨ (x = x' ∧ y < y')) := by
  rw [PySem.W.dataLt_pair (by simp [PySem.W.alike]) (by simp [PySem.W.alike, alike_ints]), PySem.W.dataLt_int, PySem.W.dataLt_list]
  have e : PyData.eqv (.list (y.map .int)) (.list (y'.map .int)) = decide (y = y') := eqv_ints y y'
  have e2 := PySem.W.dataLt_ints y y'
  unfold PySem.W.rowLt at e2
  rw [e, e2]
  simp only [PyData.eqv, beq_iff_eq]
  by_cases h1 : x = x' <;> by_cases h2 : y = y' <;> simp [h1, h2]
abbrev ilLe (a b : Int × List Int) : Bool := decide (a.1 < b.1 ∨ (a.1 = b.1 ∧ a.2 ≤ b.2))
theorem not_lt_list (x y : List Int) : (¬ y < x) ↔ x ≤ y := Iff.rfl
theorem dataLe_il {β : Type} (x : β → Int) (y : β → List Int) : PySem.W.dataLe false (fun b => .tuple [.int (x b), .list ((y b).map .int)]) = fun p q => ilLe (x p, y p) (x q, y q) := by
  funext p q
  show (!PySem.W.dataLt (.tuple [.int (x q), .list ((y q).map .int)]) (.tuple [.int (x p), .list ((y p).map .int)])) = _
  rw [dataLt_il]
  by_cases h : x q < x p ∨ (x q = x p ∧ y q < y p)
  · have h' : ¬ (x p < x q ∨ (x p = x q ∧ y p ≤ y q)) := by
      rintro (z | ⟨z1, z2⟩)
      · rcases h with h | h <;> omega
      · rcases h with h | ⟨_, h⟩
        · omega
        · exact z2 h
    rw [show ilLe (x p, y p) (x q, y q) = false from decide_eq_false h', decide_eq_true h]; rfl
  · have h' : x p < x q ∨ (x p = x q ∧ y p ≤ y q) := by
      by_cases z : x p < x q
      · exact .inl z
      · have e : x p = x q := by
          by_cases z2 : x q < x p
          · exact absurd (.inl z2) h
          · omega
        exact .inr ⟨e, fun z2 => h (.inr ⟨e.symm, z2⟩)⟩
    rw [show ilLe (x p, y p) (x q, y q) = true from decide_eq_true h', decide_eq_false h]; rfl
theorem rowLe_eq (r s : List Int) : rowLe r s = ilLe (r.length, r) (s.length, s) := by
  exact congrFun (congrFun (dataLe_il (fun r : List Int => (r.length : Int)) fun r => r) r) s
theorem ilLe_trans (a b c : Int × List Int) (h1 : ilLe a b) (h2 : ilLe b c) : ilLe a c := by
  simp only [ilLe, decide_eq_true_eq] at *
  rcases h1 with h1 | ⟨h1, h1'⟩ <;> rcases h2 with h2 | ⟨h2, h2'⟩
  · exact .inl (by omega)
  · exact .inl (by omega)
  · exact .inl (by omega)
  · exact .inr ⟨by omega, List.le_trans h1' h2'⟩
theorem ilLe_total (a b : Int × List Int) : ilLe a b || ilLe b a := by
  simp only [ilLe, Bool.or_eq_true, decide_eq_true_eq]
  by_cases h : a.1 < b.1
  · exact .inl (.inl h)
  · by_cases h' : b.1 < a.1
    · exact .inr (.inl h')
    · have e : a.1 = b.1 := by omega
      rcases List.le_total a.2 b.2 with z | z
      · exact .inl (.inr ⟨e, z⟩)
      · exact .inr (.inr ⟨e.symm, z⟩)
theorem ilLe_anti (a b : Int × List Int) (h1 : ilLe a b) (h2 : ilLe b a) : a = b := by
  simp only [ilLe, decide_eq_true_eq] at h1 h2
  have e : a.1 = b.1 := by
    rcases h1 with h1 | h1 <;> rcases h2 with h2 | h2 <;> omega
  have e2 : a.2 = b.2 := by
    rcases h1 with h1 | h1
    · omega
    · rcases h2 with h2 | h2
      · omega
      · exact List.le_antisymm h1.2 h2.2
  exact Prod.ext e e2
/-- a list that is sorted already, some of it left out, in another order -/
theorem sort_filter {α : Type} {le : α → α → Bool} (tr : ∀ a b c, le a b → le b c → le a c) (to : ∀ a b, le a b || le b a) (an : ∀ a b, le a b → le b a → a = b) {A R : List α} (hp : A.Perm R) (hs : R.Pairwise fun a b => le a b) (p : α → Bool) : (A.filter p).mergeSort le = R.filter p := by
  refine List.Perm.eq_of_pairwise (le := fun a b => le a b = true) (fun a b _ _ h1 h2 => an a b h1 h2) (List.pairwise_mergeSort tr to _) (hs.sublist List.filter_sublist) ?_
  exact (List.mergeSort_perm _ _).trans (hp.filter p)
theorem rowLe_sort {A R : List (List Int)} (hp : A.Perm R) (hs : R.Pairwise fun a b => rowLe a b) (p : List Int → Bool) : (A.filter p).mergeSort rowLe = R.filter p := by
  refine sort_filter (fun a b c h1 h2 => ?_) (fun a b => ?_) (fun a b h1 h2 => ?_) hp hs p
  · rw [rowLe_eq] at *; exact ilLe_trans _ _ _ h1 h2
  · rw [rowLe_eq, rowLe_eq]; exact ilLe_total _ _
  · rw [rowLe_eq] at *; exact congrArg Prod.snd (ilLe_anti _ _ h1 h2)
theorem mergeSort_map {α β : Type} {f : α → β} {le : β → β → Bool} (xs : List α) : (xs.map f).mergeSort le = (xs.mergeSort fun a b => le (f a) (f b)).map f :=
  (List.map_mergeSort (r := fun a b => le (f a) (f b)) (s := le) (f := f) (l := xs) (fun a _ b _ => rfl)).symm
theorem depth_il (x : Int) (y : List Int) : (PyData.tuple [.int x, .list (y.map .int)]).depth ≤ 5 := by
  have := depth_ints y
  simp [PyData.depth, PyData.depthAll]; omega
abbrev ilP (p : Int × List Int) : D := .tup [.int p.1, .lst (p.2.map .int)]
theorem enc_ilP (p : Int × List Int) : encD (ilP p) = .tuple [.int p.1, .list (p.2.map .int)] := by
  simp [encD, encL, encD_ints]
theorem idxD_fe {α : Type} [DecidableEq α] {f : α → D} {P : α → Prop} {k : Nat} (h : FE f P k) (hk : k ≤ 50) (nf : ∀ x, flatD (f x) = false) {x : α} {ys : List α} (hx : P x) (hy : PA P ys) : idxD (f x) (ys.map f) = ys.findIdx? fun y => decide (y = x) := by
  obtain ⟨g, h1, h2, h3, h4⟩ := h
  unfold idxD
  rw [nf x, h1, fe_pys h1]
  have a := h3 x
  have b := fe_depth h3 ys
  simp only [Bool.false_and, Bool.false_eq_true, if_false]
  rw [if_pos (by simp [SeqAt.shaped, h2 x hx, PyData.canLay0, fe_lay h2 ys hy, PyData.depth]; omega), List.findIdx?_map]
  congr 1
  funext y
  simp [h4]
/-- sorted(pairs of a number and a list of numbers) -/
theorem srt_il {xs : List (Int × List Int)} {k : D → Prop} (h : k (.lst ((xs.mergeSort ilLe).map ilP))) : srtD (.lst (xs.map ilP)) k := by
  refine ⟨xs.map ilP, rfl, ?_, ?_, ?_, ?_, ?_⟩
  · rw [plnL_all, List.all_map]
    simp [plnD, plnL, pln_ints]
  · intro d hd d' hd'
    rw [List.map_map] at hd hd'
    obtain ⟨a, _, rfl⟩ := List.mem_map.mp hd
    obtain ⟨b, _, rfl⟩ := List.mem_map.mp hd'
    simp only [Function.comp, enc_ilP]
    simp [PySem.W.alike, PySem.W.alikeAll, alike_ints]
  · rw [List.map_map]
    exact PySem.W.Sortable.tuples fun a => ⟨_, _, enc_ilP a⟩
  · intro e he
    obtain ⟨a, _, rfl⟩ := List.mem_map.mp he
    rw [enc_ilP]
    exact Nat.le_trans (depth_il _ _) (by decide)
  · rw [mergeSort_map]
    have : (fun a b => PySem.W.dataLe false encD (ilP a) (ilP b)) = ilLe := by
      funext a b
      have q := congrFun (congrFun (dataLe_il (fun p : Int × List Int => p.1) fun p => p.2) a) b
      rw [show PySem.W.dataLe false encD (ilP a) (ilP b) = PySem.W.dataLe false (fun p : Int × List Int => .tuple [.int p.1, .list (p.2.map .int)]) a b from by
        rw [PySem.W.dataLe_eq, PySem.W.dataLe_eq]
        simp only [enc_ilP]]
      rw [q]
    rw [this]; exact h
/-- sorted(numbers) -/
theorem srt_ints {xs : List Int} {k : D → Prop} (h : k (.lst ((xs.mergeSort fun a b => decide (a ≤ b)).map .int))) : srtD (.lst (xs.map .int)) k := by
  refine ⟨xs.map .int, rfl, pln_ints xs, ?_, ?_, ?_, ?_⟩
  · intro d hd d' hd'
    rw [List.map_map] at hd hd'
    obtain ⟨a, _, rfl⟩ := List.mem_map.mp hd
    obtain ⟨b, _, rfl⟩ := List.mem_map.mp hd'
    simp [encD, PySem.W.alike]
  · rw [List.map_map]
    exact PySem.W.Sortable.others fun a => ⟨by simp [encD], fun _ => by simp [encD]⟩
  · intro e he
    obtain ⟨a, _, rfl⟩ := List.mem_map.mp he
    simp [encD, PyData.depth]
  · rw [mergeSort_map]
    have : (fun a b => PySem.W.dataLe false encD (.int a) (.int b)) = fun a b : Int => decide (a ≤ b) := by
      funext a b
      have q := congrFun (congrFun (PySem.W.dataLe_int (fun p : Int => p)) a) b
      rw [← q]
      rw [PySem.W.dataLe_eq, PySem.W.dataLe_eq]
      rfl
    rw [this]; exact h
/-- .. that are sorted -/
theorem srt_sorted {xs : List Int} {k : D → Prop} (hs : xs.Pairwise fun a b => a ≤ b) (h : k (.lst (xs.map .int))) : srtD (.lst (xs.map .int)) k := by
  refine srt_ints ?_
  rw [List.mergeSort_of_pairwise (hs.imp fun q => decide_eq_true q)]
  exact h
end Sb
set_option linter.all false
set_option maxRecDepth 20000
namespace Sb
namespace Law
open PySem
abbrev i_is_name : Nat := 0
abbrev i_wrong_island : Nat := 1
abbrev i_pairs_of : Nat := 2
abbrev i_Sea___init__ : Nat := 3
abbrev i_Sea_islands : Nat := 4
abbrev i_Sea_pairs : Nat := 5
abbrev i_Sea___contains__ : Nat := 6
abbrev i_Sea___len__ : Nat := 7
abbrev i_Sea___bool__ : Nat := 8
abbrev i_Sea___eq__ : Nat := 9
abbrev i_Sea___str__ : Nat := 10
abbrev i__law_reel : Nat := 11
abbrev i__law_upto : Nat := 12
abbrev i__law_pick : Nat := 13
abbrev i__law_title : Nat := 14
abbrev i__law_titles : Nat := 15
abbrev i__law_odd : Nat := 16
abbrev i__law_sort : Nat := 17
abbrev i__law_kept : Nat := 18
abbrev i__law_told : Nat := 19
abbrev i__law_pairs : Nat := 20
abbrev i__law_shows : Nat := 21
abbrev i__law_right : Nat := 22
abbrev i_law : Nat := 23
abbrev c_Sea : Nat := 0
abbrev x_WrongValue : Nat := 1
abbrev x_InvalidText : Nat := 2
abbrev x_InvalidNumber : Nat := 3
abbrev x_InvalidName : Nat := 4
abbrev x_InvalidWish : Nat := 5
abbrev x_InvalidIndex : Nat := 6
abbrev x_NotASea : Nat := 7
abbrev x_InvalidIslands : Nat := 8
abbrev x_InvalidBridges : Nat := 9
abbrev x_InvalidWishes : Nat := 10
abbrev x_InvalidEnds : Nat := 11
abbrev x_InvalidPrices : Nat := 12
abbrev x_InvalidForward : Nat := 13
abbrev x_InvalidOffers : Nat := 14
abbrev x_InvalidGrowth : Nat := 15
abbrev x_WrongName : Nat := 16
abbrev x_UnknownName : Nat := 17
abbrev x_NoAnswer : Nat := 18
abbrev x_TooWeak : Nat := 19
abbrev x_TooMany : Nat := 20
abbrev x_NothingToUndo : Nat := 21
abbrev x_Broken : Nat := 22
abbrev g_MOST_ISLANDS : Nat := 0
abbrev g_LETTERS : Nat := 1
abbrev g_DIGITS : Nat := 2
abbrev g_LONGEST_NAME : Nat := 3
abbrev a_rocks : Nat := 0
abbrev a_links : Nat := 1
abbrev a_index : Nat := 2
abbrev a_given : Nat := 3
abbrev a_pairs : Nat := 4
abbrev a_islands : Nat := 5
/-- is_name -/
def F_is_name : Fn where
  names := ["value", "sign"]
  np := 1
  dfl := []
  fresh := false
  lam := false
  hot := false
  clo := false
  body := (.seq (.ite (.or (.not (.isi (.bvar 0) [.str])) (.not (.cmp2 .le .le (.cst (.int 1)) (.bi .len (.cons (.bvar 0) .nil)) (.glob g_LONGEST_NAME)))) (.seq (.ret (.cst (.bool false))) .nil) .nil) (.seq (.ret (.and (.cmp .in_ (.ix (.bvar 0) (.cst (.int 0))) (.glob g_LETTERS)) (.bi .all (.cons (.comp (.var 1) (.bvar 0) .yes (.or (.cmp .in_ (.bvar 1) (.glob g_LETTERS)) (.cmp .in_ (.bvar 1) (.glob g_DIGITS))) [1]) .nil)))) .nil))
/-- wrong_island -/
def F_wrong_island : Fn where
  names := ["islands", "at", "island"]
  np := 1
  dfl := []
  fresh := false
  lam := false
  hot := false
  clo := false
  body := (.seq (.for_ (.tup (.cons (.var 1) (.cons (.var 2) .nil))) (.enum (.var 0)) (.seq (.ite (.or (.not (.call i_is_name (.cons (.lend 2) .nil) .nil [])) (.or (.cmp .in_ (.bvar 2) (.sl (.bvar 0) .nil (.var 1))) (.cmp .ge (.bvar 1) (.glob g_MOST_ISLANDS)))) (.seq (.ret (.var 1)) .nil) .nil) .nil)) (.seq (.ret (.cst .none)) .nil))
/-- pairs_of -/
def F_pairs_of : Fn where
  names := ["many", "found", "one", "other"]
  np := 1
  dfl := []
  fresh := false
  lam := false
  hot := false
  clo := false
  body := (.seq (.asg (.var 1) (.lst .nil)) (.seq (.for_ (.var 2) (.rng1 (.var 0)) (.seq (.asg (.var 1) (.bin .add (.bvar 1) (.comp (.var 3) (.rng2 (.bin .add (.bvar 2) (.cst (.int 1))) (.var 0)) .yes (.tup (.cons (.var 2) (.cons (.var 3) .nil))) [3]))) .nil)) (.seq (.ret (.bi .tuple (.cons (.bvar 1) .nil))) .nil)))
/-- Sea.__init__ -/
def F_Sea___init__ : Fn where
  names := ["self", "islands", "wrong"]
  np := 2
  dfl := []
  fresh := false
  lam := false
  hot := false
  clo := false
  body := (.seq (.ite (.or (.not (.isi (.bvar 1) [.tuple])) (.cmp .lt (.bi .len (.cons (.bvar 1) .nil)) (.cst (.int 2)))) (.seq (.raise 8 (.cons (.cst .none) .nil)) .nil) .nil) (.seq (.asg (.var 2) (.call i_wrong_island (.cons (.lend 1) .nil) .nil [])) (.seq (.ite (.cmp .notn (.bvar 2) (.cst .none)) (.seq (.raise 8 (.cons (.var 2) .nil)) .nil) .nil) (.seq (.setAt 0 a_rocks (.var 1)) (.seq (.setAt 0 a_links (.call i_pairs_of (.cons (.bi .len (.cons (.bvar 1) .nil)) .nil) .nil [])) .nil)))))
/-- Sea.islands -/
def F_Sea_islands : Fn where
  names := ["self"]
  np := 1
  dfl := []
  fresh := false
  lam := false
  hot := false
  clo := false
  body := (.seq (.ret (.attr (.bvar 0) a_rocks)) .nil)
/-- Sea.pairs -/
def F_Sea_pairs : Fn where
  names := ["self", "one", "other"]
  np := 1
  dfl := []
  fresh := false
  lam := false
  hot := false
  clo := false
  body := (.seq (.ret (.bi .tuple (.cons (.comp (.tup (.cons (.var 1) (.cons (.var 2) .nil))) (.attr (.bvar 0) a_links) .yes (.tup (.cons (.ix (.attr (.bvar 0) a_rocks) (.var 1)) (.cons (.ix (.attr (.bvar 0) a_rocks) (.var 2)) .nil))) [1, 2]) .nil))) .nil)
/-- Sea.__contains__ -/
def F_Sea___contains__ : Fn where
  names := ["self", "value"]
  np := 2
  dfl := []
  fresh := false
  lam := false
  hot := false
  clo := false
  body := (.seq (.ret (.cmp .in_ (.bvar 1) (.attr (.bvar 0) a_rocks))) .nil)
/-- Sea.__len__ -/
def F_Sea___len__ : Fn where
  names := ["self"]
  np := 1
  dfl := []
  fresh := false
  lam := false
  hot := false
  clo := false
  body := (.seq (.ret (.bi .len (.cons (.attr (.bvar 0) a_rocks) .nil))) .nil)
/-- Sea.__bool__ -/
def F_Sea___bool__ : Fn where
  names := ["self"]
  np := 1
  dfl := []
  fresh := false
  lam := false
  hot := false
  clo := false
  body := (.seq (.ret (.cst (.bool true))) .nil)
/-- Sea.__eq__ -/
def F_Sea___eq__ : Fn where
  names := ["self", "other"]
  np := 2
  dfl := []
  fresh := false
  lam := false
  hot := false
  clo := false
  body := (.seq (.ret (.and (.isi (.bvar 1) [(.cls c_Sea)]) (.cmp .eq (.attr (.bvar 0) a_rocks) (.attr (.bvar 1) a_rocks)))) .nil)
/-- Sea.__str__ -/
def F_Sea___str__ : Fn where
  names := ["self"]
  np := 1
  dfl := []
  fresh := false
  lam := false
  hot := false
  clo := false
  body := (.seq (.ret (.mt .join (.cst (.str " ")) (.cons (.lstar (.cons (.cst (.str "islands")) .nil) (.attr (.bvar 0) a_rocks)) .nil))) .nil)
/-- _law_reel -/
def F__law_reel : Fn where
  names := ["script", "turn", "stirred", "cell", "own"]
  np := 2
  dfl := []
  fresh := true
  lam := false
  hot := false
  clo := false
  body := (.seq (.asg (.var 2) (.bin .add (.cst (.int 70001)) (.bin .mul (.cst (.int 613)) (.bvar 1)))) (.seq (.for_ (.var 3) (.sl (.bvar 0) .nil (.cst (.int 5))) (.seq (.asg (.var 2) (.bin .mod (.bi .int (.cons (.bin .add (.bin .mul (.bvar 2) (.cst (.int 52361))) (.bvar 3)) .nil)) (.cst (.int 2147483543)))) .nil)) (.seq (.asg (.var 4) (.ife (.cmp .lt (.bvar 1) (.bi .len (.cons (.bvar 0) .nil))) (.ix (.bvar 0) (.var 1)) (.bin .add (.bin .mul (.cst (.int 11)) (.bvar 1)) (.cst (.int 4))))) (.seq (.ret (.lst (.cons (.bin .mod (.bi .int (.cons (.bin .add (.bin .add (.bin .mul (.bvar 2) (.cst (.int 23))) (.bin .mul (.bvar 4) (.cst (.int 41)))) (.cst (.int 9))) .nil)) (.cst (.int 2147483543))) (.cons (.ife (.cmp .ge (.bi .abs (.cons (.bvar 4) .nil)) (.bin .pow (.cst (.int 10)) (.cst (.int 17)))) (.bi .abs (.cons (.bvar 4) .nil)) (.cst (.int 0))) (.cons (.cst (.int 0)) .nil))))) .nil))))
/-- _law_upto -/
def F__law_upto : Fn where
  names := ["reel", "many", "stirred", "figure"]
  np := 2
  dfl := []
  fresh := false
  lam := false
  hot := false
  clo := false
  body := (.seq (.ite (.cmp .gt (.ix (.bvar 0) (.cst (.int 1))) (.cst (.int 0))) (.seq (.asg (.tup (.cons (.ix (.var 0) (.cst (.int 1))) (.cons (.var 3) .nil))) (.bi .divmod (.cons (.ix (.bvar 0) (.cst (.int 1))) (.cons (.bvar 1) .nil)))) (.seq (.ret (.var 3)) .nil)) .nil) (.seq (.asg (.ix (.var 0) (.cst (.int 2))) (.bin .add (.ix (.bvar 0) (.cst (.int 2))) (.cst (.int 1)))) (.seq (.asg (.var 2) (.bin .mod (.bi .int (.cons (.bin .add (.bin .add (.bin .mul (.ix (.bvar 0) (.cst (.int 0))) (.cst (.int 48119))) (.bin .mul (.bin .mul (.ix (.bvar 0) (.cst (.int 2))) (.ix (.bvar 0) (.cst (.int 2)))) (.cst (.int 31)))) (.cst (.int 5))) .nil)) (.cst (.int 2147483543)))) (.seq (.asg (.ix (.var 0) (.cst (.int 0))) (.bin .mod (.bi .int (.cons (.bin .add (.bin .mul (.bvar 2) (.bin .add (.cst (.int 25013)) (.bin .mod (.bi .int (.cons (.bvar 2) .nil)) (.cst (.int 7001))))) (.cst (.int 3))) .nil)) (.cst (.int 2147483579)))) (.seq (.ret (.bin .mod (.bi .int (.cons (.bin .fdiv (.ix (.bvar 0) (.cst (.int 0))) (.cst (.int 128))) .nil)) (.bvar 1))) .nil)))))
/-- _law_pick -/
def F__law_pick : Fn where
  names := ["reel", "menu"]
  np := 2
  dfl := []
  fresh := false
  lam := false
  hot := false
  clo := false
  body := (.seq (.ret (.ix (.bvar 1) (.call i__law_upto (.cons (.lend 0) (.cons (.bi .len (.cons (.bvar 1) .nil)) .nil)) .nil []))) .nil)
/-- _law_title -/
def F__law_title : Fn where
  names := ["reel", "letters", "found", "turn"]
  np := 1
  dfl := []
  fresh := false
  lam := false
  hot := false
  clo := false
  body := (.seq (.ite (.cmp .eq (.call i__law_upto (.cons (.lend 0) (.cons (.cst (.int 4)) .nil)) .nil []) (.cst (.int 0))) (.seq (.ret (.call i__law_pick (.cons (.lend 0) (.cons (.lst (.cons (.cst (.str "islands")) (.cons (.cst (.str "island")) (.cons (.cst (.str "sea")) (.cons (.cst (.str "way")) (.cons (.cst (.str "in")) (.cons (.cst (.str "out")) (.cons (.cst (.str "a")) (.cons (.cst (.str "b")) .nil))))))))) .nil)) .nil [])) .nil) .nil) (.seq (.asg (.var 1) (.cst (.str "abcdefghijklmnopqrstuvwxyz"))) (.seq (.asg (.var 2) (.call i__law_pick (.cons (.lend 0) (.cons (.lend 1) .nil)) .nil [])) (.seq (.for_ (.var 3) (.rng1 (.call i__law_pick (.cons (.lend 0) (.cons (.lst (.cons (.cst (.int 0)) (.cons (.cst (.int 0)) (.cons (.cst (.int 1)) (.cons (.cst (.int 2)) (.cons (.cst (.int 7)) .nil)))))) .nil)) .nil [])) (.seq (.asg (.var 2) (.bin .add (.bvar 2) (.call i__law_pick (.cons (.lend 0) (.cons (.bin .add (.bvar 1) (.cst (.str "0123456789"))) .nil)) .nil []))) .nil)) (.seq (.ret (.var 2)) .nil)))))
/-- _law_titles -/
def F__law_titles : Fn where
  names := ["reel", "many", "found", "turn", "fresh", "spare", "each", "k"]
  np := 2
  dfl := []
  fresh := false
  lam := false
  hot := false
  clo := false
  body := (.seq (.asg (.var 2) (.mkown (.lst .nil))) (.seq (.for_ (.var 3) (.rng1 (.var 1)) (.seq (.asg (.var 4) (.call i__law_title (.cons (.lend 0) .nil) .nil [])) (.seq (.asg (.var 5) (.comp (.var 6) (.comp (.var 7) (.rng1 (.var 1)) .yes (.bin .add (.cst (.str "q")) (.bi .str (.cons (.bvar 7) .nil))) [7]) (.cmp .nin (.bvar 6) (.bvar 2)) (.var 6) [6])) (.seq (.app 2 (.ife (.cmp .in_ (.bvar 4) (.bvar 2)) (.ix (.bvar 5) (.cst (.int 0))) (.var 4))) .nil)))) (.seq (.retv 2) .nil)))
/-- _law_odd -/
def F__law_odd : Fn where
  names := ["reel", "some"]
  np := 1
  dfl := []
  fresh := false
  lam := false
  hot := false
  clo := false
  body := (.seq (.asg (.var 1) (.lst (.cons (.cst .none) (.cons (.cst (.bool true)) (.cons (.cst (.bool false)) (.cons (.cst (.int 0)) (.cons (.cst (.int 1)) (.cons (.neg (.cst (.int 1))) (.cons (.cst (.int 7)) (.cons (.bin .add (.bin .pow (.cst (.int 10)) (.cst (.int 30))) (.cst (.int 1))) (.cons (.cst (.str "")) (.cons (.cst (.str "a")) (.cons (.cst (.str "A")) (.cons (.cst (.str "islands")) (.cons (.cst (.str "islands a b")) (.cons (.tup .nil) (.cons (.tup (.cons (.cst (.int 1)) .nil)) (.cons (.tup (.cons (.cst (.str "a")) .nil)) .nil)))))))))))))))))) (.seq (.ret (.call i__law_pick (.cons (.lend 0) (.cons (.bin .add (.bvar 1) (.lst (.cons (.tup (.cons (.cst (.str "a")) (.cons (.cst (.str "b")) .nil))) (.cons (.tup (.cons (.cst (.str "a")) (.cons (.cst (.str "b")) (.cons (.cst (.int 1)) .nil)))) (.cons (.lst .nil) (.cons (.lst (.cons (.cst (.int 1)) .nil)) (.cons (.lst (.cons (.cst (.str "a")) (.cons (.cst (.str "b")) .nil))) (.cons (.sdl []) (.cons (.sdl [("a", 1)]) (.cons (.tup (.cons (.cst .none) .nil)) (.cons (.tup (.cons (.tup .nil) .nil)) .nil))))))))))) .nil)) .nil [])) .nil))
/-- _law_sort -/
def F__law_sort : Fn where
  names := ["e", "flags", "base", "plain", "at"]
  np := 1
  dfl := []
  fresh := false
  lam := false
  hot := true
  clo := false
  body := (.seq (.asg (.var 1) (.mkown (.lst (.cons (.isx (.var 0) (some 2) "InvalidText" []) (.cons (.isx (.var 0) (some 3) "InvalidNumber" []) (.cons (.isx (.var 0) (some 4) "InvalidName" []) .nil)))))) (.seq (.asg (.var 1) (.mkown (.bin .add (.bvar 1) (.lst (.cons (.isx (.var 0) (some 5) "InvalidWish" []) (.cons (.isx (.var 0) (some 6) "InvalidIndex" []) (.cons (.isx (.var 0) (some 7) "NotASea" []) .nil))))))) (.seq (.asg (.var 1) (.mkown (.bin .add (.bvar 1) (.lst (.cons (.isx (.var 0) (some 8) "InvalidIslands" [8]) (.cons (.isx (.var 0) (some 9) "InvalidBridges" []) (.cons (.isx (.var 0) (some 10) "InvalidWishes" []) .nil))))))) (.seq (.asg (.var 1) (.mkown (.bin .add (.bvar 1) (.lst (.cons (.isx (.var 0) (some 11) "InvalidEnds" []) (.cons (.isx (.var 0) (some 12) "InvalidPrices" []) (.cons (.isx (.var 0) (some 13) "InvalidForward" []) .nil))))))) (.seq (.asg (.var 1) (.mkown (.bin .add (.bvar 1) (.lst (.cons (.isx (.var 0) (some 14) "InvalidOffers" []) (.cons (.isx (.var 0) (some 15) "InvalidGrowth" []) (.cons (.isx (.var 0) (some 17) "UnknownName" []) .nil))))))) (.seq (.asg (.var 1) (.mkown (.bin .add (.bvar 1) (.lst (.cons (.isx (.var 0) (some 19) "TooWeak" []) (.cons (.isx (.var 0) (some 20) "TooMany" []) (.cons (.isx (.var 0) (some 21) "NothingToUndo" []) .nil))))))) (.seq (.app 1 (.isx (.var 0) (some 22) "Broken" [])) (.seq (.asg (.var 2) (.lst (.cons (.isx (.var 0) (some 1) "WrongValue" [8]) (.cons (.isx (.var 0) (some 16) "WrongName" []) (.cons (.isx (.var 0) (some 18) "NoAnswer" []) .nil))))) (.seq (.asg (.var 3) (.lst (.cons (.isx (.var 0) none "ValueError" [8]) (.cons (.isx (.var 0) none "LookupError" []) (.cons (.isx (.var 0) none "ArithmeticError" []) .nil))))) (.seq (.asg (.var 4) (.ife (.cmp .eq (.mt .count (.bvar 1) (.cons (.cst (.bool true)) .nil)) (.cst (.int 1))) (.mt .index (.bvar 1) (.cons (.cst (.bool true)) .nil)) (.neg (.cst (.int 1))))) (.seq (.ret (.ife (.cmp2 .eq .eq (.bvar 2) (.bvar 3) (.lst (.cons (.cmp2 .lt .lt (.neg (.cst (.int 1))) (.bvar 4) (.cst (.int 14))) (.cons (.cmp .eq (.bvar 4) (.cst (.int 14))) (.cons (.cmp .gt (.bvar 4) (.cst (.int 14))) .nil))))) (.var 4) (.neg (.cst (.int 1))))) .nil)))))))))))
/-- _law_kept -/
def F__law_kept : Fn where
  names := ["e", "at"]
  np := 2
  dfl := []
  fresh := false
  lam := false
  hot := true
  clo := false
  body := (.seq (.ite (.cmp .in_ (.bvar 1) (.lst (.cons (.neg (.cst (.int 1))) (.cons (.cst (.int 17)) .nil)))) (.seq (.ret (.cst .none)) .nil) .nil) (.seq (.ret (.ife (.or (.cmp2 .lt .lt (.cst (.int 5)) (.bvar 1) (.cst (.int 14))) (.cmp .eq (.bvar 1) (.cst (.int 18)))) (.attx (.var 0) a_index) (.attx (.var 0) a_given))) .nil))
/-- _law_told -/
def F__law_told : Fn where
  names := ["act", "words", "e", "back", "at"]
  np := 1
  dfl := []
  fresh := false
  lam := false
  hot := false
  clo := true
  body := (.seq (.asg (.var 1) (.lst (.cons (.cst (.str "text")) (.cons (.cst (.str "number")) (.cons (.cst (.str "name")) (.cons (.cst (.str "wish")) (.cons (.cst (.str "index")) (.cons (.cst (.str "sea")) (.cons (.cst (.str "islands")) (.cons (.cst (.str "bridges")) (.cons (.cst (.str "wishes")) (.cons (.cst (.str "ends")) (.cons (.cst (.str "prices")) .nil))))))))))))) (.seq (.asg (.var 1) (.bin .add (.bvar 1) (.lst (.cons (.cst (.str "forward")) (.cons (.cst (.str "offers")) (.cons (.cst (.str "growth")) (.cons (.cst (.str "unknown")) (.cons (.cst (.str "weak")) (.cons (.cst (.str "many")) (.cons (.cst (.str "undo")) (.cons (.cst (.str "broken")) (.cons (.cst (.str "odd")) .nil)))))))))))) (.seq (.try_ (.seq (.asg (.var 3) (.callv 0 .nil)) .nil) [1, 16, 18] [8] 2 (.seq (.asg (.var 4) (.call i__law_sort (.cons (.lend 2) .nil) .nil [])) (.seq (.ret (.lst (.cons (.ix (.bvar 1) (.var 4)) (.cons (.bi .repr (.cons (.call i__law_kept (.cons (.lend 2) (.cons (.lend 4) .nil)) .nil []) .nil)) .nil)))) .nil))) (.seq (.ret (.lst (.cons (.cst (.str "back")) (.cons (.bi .repr (.cons (.bvar 3) .nil)) .nil)))) .nil))))
/-- _law_pairs -/
def F__law_pairs : Fn where
  names := ["isles", "found", "at", "far"]
  np := 1
  dfl := []
  fresh := false
  lam := false
  hot := false
  clo := false
  body := (.seq (.asg (.var 1) (.lst .nil)) (.seq (.for_ (.var 2) (.rng1 (.bi .len (.cons (.bvar 0) .nil))) (.seq (.asg (.var 1) (.bin .add (.bvar 1) (.comp (.var 3) (.sl (.bvar 0) (.bin .add (.bvar 2) (.cst (.int 1))) .nil) .yes (.tup (.cons (.ix (.bvar 0) (.var 2)) (.cons (.var 3) .nil))) [3]))) .nil)) (.seq (.ret (.bi .tuple (.cons (.bvar 1) .nil))) .nil)))
/-- _law_shows -/
def F__law_shows : Fn where
  names := ["here", "isles", "told", "due"]
  np := 2
  dfl := []
  fresh := false
  lam := false
  hot := false
  clo := false
  body := (.seq (.asg (.var 2) (.lst (.cons (.attr (.bvar 0) a_islands) (.cons (.attr (.bvar 0) a_pairs) (.cons (.bi .len (.cons (.bvar 0) .nil)) (.cons (.stro (.var 0)) (.cons (.boolo (.var 0)) .nil))))))) (.seq (.asg (.var 3) (.lst (.cons (.bi .tuple (.cons (.bvar 1) .nil)) (.cons (.call i__law_pairs (.cons (.lend 1) .nil) .nil []) (.cons (.bi .len (.cons (.bvar 1) .nil)) (.cons (.mt .join (.cst (.str " ")) (.cons (.bin .add (.lst (.cons (.cst (.str "islands")) .nil)) (.bvar 1)) .nil)) (.cons (.cst (.bool true)) .nil))))))) (.seq (.ret (.cmp .eq (.bi .repr (.cons (.bvar 2) .nil)) (.bi .repr (.cons (.bvar 3) .nil)))) .nil)))
/-- _law_right -/
def F__law_right : Fn where
  names := ["reel", "isles", "word", "thing", "here", "twin"]
  np := 1
  dfl := []
  fresh := false
  lam := true
  hot := false
  clo := false
  body := (.seq (.asg (.var 1) (.call i__law_titles (.cons (.lend 0) (.cons (.bin .add (.cst (.int 2)) (.call i__law_upto (.cons (.lend 0) (.cons (.cst (.int 4)) .nil)) .nil [])) .nil)) .nil [])) (.seq (.par [4, 5] (.cons (.mk c_Sea (.cons (.bi .tuple (.cons (.bvar 1) .nil)) .nil) .nil []) (.cons (.mk c_Sea .nil (.cons (.bi .tuple (.cons (.bvar 1) .nil)) .nil) [1]) .nil))) (.seq (.ite (.or (.not (.call i__law_shows (.cons (.lend 4) (.cons (.lend 1) .nil)) .nil [])) (.not (.call i__law_shows (.cons (.lend 5) (.cons (.lend 1) .nil)) .nil []))) (.seq (.ret (.cst (.bool false))) .nil) .nil) (.seq (.ite (.cmp .ne (.bi .repr (.cons (.lst (.cons (.eqo false (.var 4) (.var 5)) (.cons (.eqo true (.var 4) (.var 5)) (.cons (.eqo false (.var 5) (.var 4)) .nil)))) .nil)) (.cst (.str "[True, False, True]"))) (.seq (.ret (.cst (.bool false))) .nil) .nil) (.seq (.for_ (.var 2) (.bin .add (.bin .add (.call i__law_titles (.cons (.lend 0) (.cons (.cst (.int 4)) .nil)) .nil []) (.bvar 1)) (.lst (.cons (.bin .add (.ix (.bvar 1) (.cst (.int 0))) (.cst (.str "0"))) (.cons (.sl (.ix (.bvar 1) (.neg (.cst (.int 1)))) .nil (.cst (.int 1))) (.cons (.cst (.str "")) (.cons (.stro (.var 4)) (.cons (.call i__law_odd (.cons (.lend 0) .nil) .nil []) .nil))))))) (.seq (.ite (.cmp .ne (.bi .repr (.cons (.inso false (.var 2) (.var 4)) .nil)) (.bi .repr (.cons (.cmp .in_ (.bvar 2) (.bvar 1)) .nil))) (.seq (.ret (.cst (.bool false))) .nil) .nil) .nil)) (.seq (.for_ (.var 3) (.lst (.cons (.cst .none) (.cons (.cst (.int 0)) (.cons (.cst (.bool true)) (.cons (.stro (.var 4)) (.cons (.bi .tuple (.cons (.bvar 1) .nil)) (.cons (.var 1) (.cons (.tup (.cons (.var 4) .nil)) (.cons (.lst (.cons (.var 4) .nil)) (.cons (.attr (.bvar 4) a_pairs) (.cons (.sdl []) .nil))))))))))) (.seq (.ite (.cmp .ne (.bi .repr (.cons (.lst (.cons (.eqo false (.var 4) (.var 3)) (.cons (.eqo true (.var 4) (.var 3)) .nil))) .nil)) (.cst (.str "[False, True]"))) (.seq (.ret (.cst (.bool false))) .nil) .nil) .nil)) (.seq (.ret (.and (.cmp .eq (.lamc i__law_told (.mk c_Sea (.cons (.lend 1) .nil) .nil [])) (.lst (.cons (.cst (.str "islands")) (.cons (.cst (.str "None")) .nil)))) (.call i__law_shows (.cons (.lend 4) (.cons (.lend 1) .nil)) .nil []))) .nil)))))))
/-- law -/
def F_law : Fn where
  names := ["script", "turn"]
  np := 1
  dfl := []
  fresh := false
  lam := false
  hot := false
  clo := false
  body := (.seq (.ret (.bi .all (.cons (.comp (.var 1) (.rng1 (.bi .max (.cons (.cst (.int 2)) (.cons (.bi .min (.cons (.bi .len (.cons (.bvar 0) .nil)) (.cons (.cst (.int 5)) .nil))) .nil)))) .yes (.call i__law_right (.cons (.box (.call i__law_reel (.cons (.lend 0) (.cons (.lend 1) .nil)) .nil [])) .nil) .nil []) [1]) .nil))) .nil)
def prg : Prog where
  fns := [F_is_name, F_wrong_island, F_pairs_of, F_Sea___init__, F_Sea_islands, F_Sea_pairs, F_Sea___contains__, F_Sea___len__, F_Sea___bool__, F_Sea___eq__, F_Sea___str__, F__law_reel, F__law_upto, F__law_pick, F__law_title, F__law_titles, F__law_odd, F__law_sort, F__law_kept, F__law_told, F__law_pairs, F__law_shows, F__law_right, F_law]
  cls := [{ mu := false, init := 3, nf := 2, at_ := [(0, .fld 0), (1, .fld 1), (5, .prop 4), (4, .prop 5)], len := (some 7), str := (some 10), eq := (some 9), has := (some 6), tru := (some 8) }]
  consts := [.int 5, .str "abcdefghijklmnopqrstuvwxyz", .str "0123456789", .int 8]
  exs := [(8, [2])]
def G : Sc where
  N := []
  fns := [(("is_name" : Str), 0), (("wrong_island" : Str), 1), (("pairs_of" : Str), 2), (("_law_reel" : Str), 11), (("_law_upto" : Str), 12), (("_law_pick" : Str), 13), (("_law_title" : Str), 14), (("_law_titles" : Str), 15), (("_law_odd" : Str), 16), (("_law_sort" : Str), 17), (("_law_kept" : Str), 18), (("_law_told" : Str), 19), (("_law_pairs" : Str), 20), (("_law_shows" : Str), 21), (("_law_right" : Str), 22), (("law" : Str), 23)]
  kls := [(("Sea" : Str), 0), (("WrongValue" : Str), 1), (("InvalidText" : Str), 2), (("InvalidNumber" : Str), 3), (("InvalidName" : Str), 4), (("InvalidWish" : Str), 5), (("InvalidIndex" : Str), 6), (("NotASea" : Str), 7), (("InvalidIslands" : Str), 8), (("InvalidBridges" : Str), 9), (("InvalidWishes" : Str), 10), (("InvalidEnds" : Str), 11), (("InvalidPrices" : Str), 12), (("InvalidForward" : Str), 13), (("InvalidOffers" : Str), 14), (("InvalidGrowth" : Str), 15), (("WrongName" : Str), 16), (("UnknownName" : Str), 17), (("NoAnswer" : Str), 18), (("TooWeak" : Str), 19), (("TooMany" : Str), 20), (("NothingToUndo" : Str), 21), (("Broken" : Str), 22)]
  cons := [(("MOST_ISLANDS" : Str), 0), (("LETTERS" : Str), 1), (("DIGITS" : Str), 2), (("LONGEST_NAME" : Str), 3)]
  ats := [("rocks" : Str), ("links" : Str), ("index" : Str), ("given" : Str), ("pairs" : Str), ("islands" : Str)]
  pat := [(0, 1, [], []), (1, 1, [], []), (2, 1, [], []), (3, 1, [("islands" : Str)], [1]), (3, 2, [], []), (4, 1, [], []), (5, 1, [], []), (6, 2, [], []), (7, 1, [], []), (8, 1, [], []), (9, 2, [], []), (10, 1, [], []), (11, 2, [], []), (12, 2, [], []), (13, 2, [], []), (14, 1, [], []), (15, 2, [], []), (16, 1, [], []), (17, 1, [], []), (18, 2, [], []), (19, 1, [], []), (20, 1, [], []), (21, 2, [], []), (22, 1, [], [])]
  P := prg
  xts := [((some 4), ("InvalidName" : Str), []), ((some 3), ("InvalidNumber" : Str), []), ((some 2), ("InvalidText" : Str), []), ((some 7), ("NotASea" : Str), []), ((some 6), ("InvalidIndex" : Str), []), ((some 5), ("InvalidWish" : Str), []), ((some 10), ("InvalidWishes" : Str), []), ((some 9), ("InvalidBridges" : Str), []), ((some 8), ("InvalidIslands" : Str), [8]), ((some 13), ("InvalidForward" : Str), []), ((some 12), ("InvalidPrices" : Str), []), ((some 11), ("InvalidEnds" : Str), []), ((some 17), ("UnknownName" : Str), []), ((some 15), ("InvalidGrowth" : Str), []), ((some 14), ("InvalidOffers" : Str), []), ((some 21), ("NothingToUndo" : Str), []), ((some 20), ("TooMany" : Str), []), ((some 19), ("TooWeak" : Str), []), ((some 22), ("Broken" : Str), []), ((some 18), ("NoAnswer" : Str), []), ((some 16), ("WrongName" : Str), []), ((some 1), ("WrongValue" : Str), [8]), (none, ("ArithmeticError" : Str), []), (none, ("LookupError" : Str), []), (none, ("ValueError" : Str), [8])]
  xms := [([1, 16, 18], [8])]
  xrs := [8]
  cms := []
def wh : List Wh := [.glob "is_name", .glob "wrong_island", .glob "pairs_of", .meth "Sea" "__init__", .prop "Sea" "islands", .prop "Sea" "pairs", .meth "Sea" "__contains__", .meth "Sea" "__len__", .meth "Sea" "__bool__", .meth "Sea" "__eq__", .meth "Sea" "__str__", .glob "_law_reel", .glob "_law_upto", .glob "_law_pick", .glob "_law_title", .glob "_law_titles", .glob "_law_odd", .glob "_law_sort", .glob "_law_kept", .glob "_law_told", .glob "_law_pairs", .glob "_law_shows", .glob "_law_right", .glob "law"]
def cn : List Str := ["Sea", "WrongValue", "InvalidText", "InvalidNumber", "InvalidName", "InvalidWish", "InvalidIndex", "NotASea", "InvalidIslands", "InvalidBridges", "InvalidWishes", "InvalidEnds", "InvalidPrices", "InvalidForward", "InvalidOffers", "InvalidGrowth", "WrongName", "UnknownName", "NoAnswer", "TooWeak", "TooMany", "NothingToUndo", "Broken"]
def fl : List (List Str) := [["rocks", "links"], [], ["given"], ["given"], ["given"], ["given"], ["given"], ["given"], ["index"], ["index"], ["index"], ["index"], ["index"], ["index"], ["index"], ["index"], [], ["given"], [], ["given"], ["given"], [], ["index"]]
section
variable {F : Fsem} {Γ : List Clo} {S : Store} {Q E : QD} {k : D → Prop}
@[simp] theorem pc_0 {d0 : D} : callD prg F Γ i_is_name [] [d0] S Q E = F Γ i_is_name [d0] S Q E := (rfl)
@[simp] theorem pc_1 {d0 : D} : callD prg F Γ i_wrong_island [] [d0] S Q E = F Γ i_wrong_island [d0] S Q E := (rfl)
@[simp] theorem pc_2 {d0 : D} : callD prg F Γ i_pairs_of [] [d0] S Q E = F Γ i_pairs_of [d0] S Q E := (rfl)
theorem pm_3 {d1 : D} : mkD prg F Γ c_Sea [1] [d1] S Q E = (∀ a, S a = none → F Γ i_Sea___init__ (.ptr a :: [d1]) (S.put a (.ins c_Sea [])) (mkQ c_Sea 2 false a S Q) E) := (rfl)
theorem pm_4 {d1 : D} : mkD prg F Γ c_Sea [] [d1] S Q E = (∀ a, S a = none → F Γ i_Sea___init__ (.ptr a :: [d1]) (S.put a (.ins c_Sea [])) (mkQ c_Sea 2 false a S Q) E) := (rfl)
@[simp] theorem pc_5 {d0 : D} : callD prg F Γ i_Sea_islands [] [d0] S Q E = F Γ i_Sea_islands [d0] S Q E := (rfl)
@[simp] theorem pc_6 {d0 : D} : callD prg F Γ i_Sea_pairs [] [d0] S Q E = F Γ i_Sea_pairs [d0] S Q E := (rfl)
@[simp] theorem pc_7 {d0 d1 : D} : callD prg F Γ i_Sea___contains__ [] [d0, d1] S Q E = F Γ i_Sea___contains__ [d0, d1] S Q E := (rfl)
@[simp] theorem pc_8 {d0 : D} : callD prg F Γ i_Sea___len__ [] [d0] S Q E = F Γ i_Sea___len__ [d0] S Q E := (rfl)
@[simp] theorem pc_9 {d0 : D} : callD prg F Γ i_Sea___bool__ [] [d0] S Q E = F Γ i_Sea___bool__ [d0] S Q E := (rfl)
@[simp] theorem pc_10 {d0 d1 : D} : callD prg F Γ i_Sea___eq__ [] [d0, d1] S Q E = F Γ i_Sea___eq__ [d0, d1] S Q E := (rfl)
@[simp] theorem pc_11 {d0 : D} : callD prg F Γ i_Sea___str__ [] [d0] S Q E = F Γ i_Sea___str__ [d0] S Q E := (rfl)
@[simp] theorem pc_12 {d0 d1 : D} : callD prg F Γ i__law_reel [] [d0, d1] S Q E = F Γ i__law_reel [d0, d1] S Q E := (rfl)
@[simp] theorem pc_13 {d0 d1 : D} : callD prg F Γ i__law_upto [] [d0, d1] S Q E = F Γ i__law_upto [d0, d1] S Q E := (rfl)
@[simp] theorem pc_14 {d0 d1 : D} : callD prg F Γ i__law_pick [] [d0, d1] S Q E = F Γ i__law_pick [d0, d1] S Q E := (rfl)
@[simp] theorem pc_15 {d0 : D} : callD prg F Γ i__law_title [] [d0] S Q E = F Γ i__law_title [d0] S Q E := (rfl)
@[simp] theorem pc_16 {d0 d1 : D} : callD prg F Γ i__law_titles [] [d0, d1] S Q E = F Γ i__law_titles [d0, d1] S Q E := (rfl)
@[simp] theorem pc_17 {d0 : D} : callD prg F Γ i__law_odd [] [d0] S Q E = F Γ i__law_odd [d0] S Q E := (rfl)
@[simp] theorem pc_18 {d0 : D} : callD prg F Γ i__law_sort [] [d0] S Q E = F Γ i__law_sort [d0] S Q E := (rfl)
@[simp] theorem pc_19 {d0 d1 : D} : callD prg F Γ i__law_kept [] [d0, d1] S Q E = F Γ i__law_kept [d0, d1] S Q E := (rfl)
@[simp] theorem pc_20 {d0 : D} : callD prg F Γ i__law_told [] [d0] S Q E = F Γ i__law_told [d0] S Q E := (rfl)
@[simp] theorem pc_21 {d0 : D} : callD prg F Γ i__law_pairs [] [d0] S Q E = F Γ i__law_pairs [d0] S Q E := (rfl)
@[simp] theorem pc_22 {d0 d1 : D} : callD prg F Γ i__law_shows [] [d0, d1] S Q E = F Γ i__law_shows [d0, d1] S Q E := (rfl)
@[simp] theorem pc_23 {d0 : D} : callD prg F Γ i__law_right [] [d0] S Q E = F Γ i__law_right [d0] S Q E := (rfl)
@[simp] theorem pa_Sea_rocks {x0 x1 : D} : attrD prg F Γ a_rocks (.obj c_Sea [x0, x1]) S Q E = Q x0 S := (rfl)
@[simp] theorem pa_Sea_links {x0 x1 : D} : attrD prg F Γ a_links (.obj c_Sea [x0, x1]) S Q E = Q x1 S := (rfl)
@[simp] theorem pa_Sea_islands {x0 x1 : D} : attrD prg F Γ a_islands (.obj c_Sea [x0, x1]) S Q E = F Γ i_Sea_islands [.obj c_Sea [x0, x1]] S Q fun _ _ => False := (rfl)
@[simp] theorem pa_Sea_pairs {x0 x1 : D} : attrD prg F Γ a_pairs (.obj c_Sea [x0, x1]) S Q E = F Γ i_Sea_pairs [.obj c_Sea [x0, x1]] S Q fun _ _ => False := (rfl)
@[simp] theorem pl_Sea {x0 x1 : D} : biX prg F Γ .len [.obj c_Sea [x0, x1]] S Q E = F Γ i_Sea___len__ [.obj c_Sea [x0, x1]] S (lenQ Q) fun _ _ => False := (rfl)
@[simp] theorem ps_Sea {x0 x1 : D} : ownX prg F Γ (fun c => c.str) (.obj c_Sea [x0, x1]) [] S Q = F Γ i_Sea___str__ [.obj c_Sea [x0, x1]] S Q fun _ _ => False := (rfl)
@[simp] theorem pq_Sea {x0 x1 : D} {y : D} : ownX prg F Γ (fun c => c.eq) (.obj c_Sea [x0, x1]) [y] S Q = F Γ i_Sea___eq__ [.obj c_Sea [x0, x1], y] S Q fun _ _ => False := (rfl)
@[simp] theorem ph_Sea {x0 x1 : D} {y : D} : ownX prg F Γ (fun c => c.has) (.obj c_Sea [x0, x1]) [y] S Q = F Γ i_Sea___contains__ [.obj c_Sea [x0, x1], y] S Q fun _ _ => False := (rfl)
@[simp] theorem pb_Sea {x0 x1 : D} : ownX prg F Γ (fun c => c.tru) (.obj c_Sea [x0, x1]) [] S Q = F Γ i_Sea___bool__ [.obj c_Sea [x0, x1]] S Q fun _ _ => False := (rfl)
@[simp] theorem pi_Sea {fs : List D} : clsIn prg (.obj c_Sea fs) = true := (rfl)
@[simp] theorem pt_Sea_rocks {a : Nat} {r : Env} {K : Store → Prop} { v : D} : setAtD prg (some (.ptr a) :: r) 0 a_rocks v (S.put a (.ins c_Sea [])) K = K (S.put a (.ins c_Sea [v])) := by
  simp only [setAtD, List.getElem?_cons_zero, put_same]
  show (if _ then _ else _) = _
  simp
@[simp] theorem pt_Sea_links {a : Nat} {r : Env} {K : Store → Prop} {x0 v : D} : setAtD prg (some (.ptr a) :: r) 0 a_links v (S.put a (.ins c_Sea [x0])) K = K (S.put a (.ins c_Sea [x0, v])) := by
  simp only [setAtD, List.getElem?_cons_zero, put_same]
  show (if _ then _ else _) = _
  simp
@[simp] theorem pg_MOST_ISLANDS : globD prg g_MOST_ISLANDS k = k (.int 5) := (rfl)
@[simp] theorem pg_LETTERS : globD prg g_LETTERS k = k (.str "abcdefghijklmnopqrstuvwxyz") := (rfl)
@[simp] theorem pg_DIGITS : globD prg g_DIGITS k = k (.str "0123456789") := (rfl)
@[simp] theorem pg_LONGEST_NAME : globD prg g_LONGEST_NAME k = k (.int 8) := (rfl)
@[simp] theorem px_InvalidIslands : (prg.exs.lookup 8).isSome = true := (rfl)
@[simp] theorem pxa_InvalidIslands_index {d : D} : attxD prg a_index (.exc 8 [d]) k = k d := (rfl)
end
end Law
end Sb
set_option linter.all false
set_option maxRecDepth 20000
set_option maxHeartbeats 1000000
set_option autoImplicit false
/-! T lots: sets_of, lots_of, out_of -/
namespace Sb.Law
open PySem
section
variable {n : Nat} {Γ : List Clo} {S : Store} {Q E : QD}
abbrev lotD (l : List Bool) : D := .tup (l.map .bool)
abbrev spD (p : Nat × Nat) : D := .tup [.int p.1, .int p.2]
def setsN : Nat → List (List Bool)
  | 0 => [[]]
  | n + 1 => (setsN n).flatMap fun r => [r ++ [false], r ++ [true]]
theorem flat2_len {α β : Type} (f g : α → β) (xs : List α) : (xs.flatMap fun r => [f r, g r]).length = xs.length * 2 := by
  induction xs with
  | nil => rfl
  | cons x r ih => rw [List.flatMap_cons, List.length_append, ih, List.length_cons]; simp; omega
theorem setsN_len : ∀ n, (setsN n).length = 2 ^ n
  | 0 => rfl
  | n + 1 => by rw [setsN, flat2_len, setsN_len n, Nat.pow_succ]
theorem setsN_mem : ∀ n l, l ∈ setsN n → l.length = n
  | 0, l, h => by simp [setsN] at h; simp [h]
  | n + 1, l, h => by
    simp only [setsN, List.mem_flatMap] at h
    obtain ⟨r, h1, h2⟩ := h
    have := setsN_mem n r h1
    simp at h2
    rcases h2 with rfl | rfl <;> simp [this]
theorem pow5 {m : Nat} (h : m ≤ 5) : 2 ^ m ≤ 32 := Nat.pow_le_pow_right (by omega : 2 > 0) h
def lotsN (m : Nat) : List (List Bool) := (setsN m).filter fun l => decide (true ∈ l) && decide (false ∈ l)
theorem lotsN_len {m : Nat} (hm : m ≤ 5) : (lotsN m).length ≤ 32 := by
  refine Nat.le_trans (List.length_filter_le _ _) ?_
  rw [setsN_len]
  exact pow5 hm
theorem lotsN_mem {m : Nat} {l : List Bool} (h : l ∈ lotsN m) : l.length = m := setsN_mem _ _ ((List.mem_filter.mp h).1)
def outN (sp : List (Nat × Nat)) (ns : List Int) (l : List Bool) : Int := (((sp.zip ns).filter fun p => l.getD p.1.1 false != l.getD p.1.2 false).map (·.2)).sum
end
end Sb.Law
set_option linter.all false
set_option maxRecDepth 20000
set_option maxHeartbeats 1000000
set_option autoImplicit false
/-! T sea: pairs, names, seas, checks -/
namespace Sb.Law
open PySem
section
variable {n : Nat} {Γ : List Clo} {S : Store} {Q E : QD}
def spansTo (m : Nat) (i : Nat) : List (Nat × Nat) := (List.range i).flatMap fun a => (List.range (m - (a + 1))).map fun k => (a, a + 1 + k)
def spansN (m : Nat) : List (Nat × Nat) := spansTo m m
theorem spansTo_succ (m i : Nat) : spansTo m (i + 1) = spansTo m i ++ (List.range (m - (i + 1))).map fun k => (i, i + 1 + k) := by
  simp [spansTo, List.range_succ]
theorem spansTo_mem {m i : Nat} {p : Nat × Nat} (h : p ∈ spansTo m i) : p.1 < p.2 ∧ p.2 < m ∧ p.1 < i := by
  simp only [spansTo, List.mem_flatMap, List.mem_range, List.mem_map] at h
  obtain ⟨a, h1, k, h2, rfl⟩ := h
  simp; omega
theorem spansTo_len {m : Nat} (hm : m ≤ 5) : ∀ i, (spansTo m i).length ≤ 5 * i
  | 0 => by simp [spansTo]
  | i + 1 => by
    have := spansTo_len hm i
    rw [spansTo_succ, List.length_append, List.length_map, List.length_range]
    omega
theorem spansN_len {m : Nat} (hm : m ≤ 5) : (spansN m).length ≤ 25 := Nat.le_trans (spansTo_len hm m) (by omega)
theorem s_pairs_of {m : Nat} (hm : m ≤ 5) (hQ : Q (.tup ((spansN m).map spD)) S) : Fs prg (n + 1) Γ i_pairs_of [.int m] S Q E := by
  show runF prg (Fs prg n) Γ F_pairs_of _ S Q E
  simp [runF, F_pairs_of, startE]
  refine ⟨by omega, ?_⟩
  refine loopS_map (I := fun p ρ S' => S' = S ∧ p.length ≤ m ∧ ∃ t, ρ = [some (.int m), some (.lst ((spansTo m p.length).map spD)), t, none]) ⟨rfl, by simp, _, rfl⟩ ?_ ?_
  · rintro p x q ρ S' e ⟨rfl, hp, t, rfl⟩ k hk
    obtain ⟨rfl, hx⟩ := range_at e
    simp
    refine ⟨by omega, ?_⟩
    refine loopC_map (fun j => spD (p.length, p.length + 1 + j)) ?_ ?_ ?_
    · simp [sl]; omega
    · intro j hj k1 k2 h1
      simpa [spD] using h1
    · have := spansTo_len hm p.length
      simp
      refine ⟨by simp only [sl]; omega, hk _ _ ⟨rfl, by simp; omega, some (.int p.length), ?_⟩⟩
      have e2 : ((m : Int) - ((p.length : Int) + 1)).toNat = m - (p.length + 1) := by omega
      simp [spansTo_succ, e2]
  · rintro ρ S' ⟨rfl, _, t, rfl⟩
    simpa [spansN] using hQ
/-- a name -/
def letterB (c : Nat) : Bool := decide (97 ≤ c) && decide (c ≤ 122)
def digitB (c : Nat) : Bool := decide (48 ≤ c) && decide (c ≤ 57)
def nmB (s : Str) : Bool := decide (1 ≤ s.length) && decide (s.length ≤ 8) && letterB (s.cps.toList[0]?.getD 0) && s.cps.toList.all fun c => letterB c || digitB c
theorem s_is_name {s : Str} (hs : s.length ≤ sl) (hQ : Q (.bool (nmB s)) S) : Fs prg (n + 1) Γ i_is_name [.str s] S Q E := by
  show runF prg (Fs prg n) Γ F_is_name _ S Q E
  simp [runF, F_is_name, startE, isAble, clsIn, tyD, lets_ok, digs_ok]
  refine ⟨hs, ?_⟩
  by_cases h1 : 1 ≤ s.length
  · rw [if_pos (by omega)]
    by_cases h2 : s.length ≤ 8
    · rw [if_pos (by omega)]
      refine ⟨hs, ?_⟩
      have hl : s.cps.toList.length = s.length := rfl
      rw [← Array.getElem?_toList, List.getElem?_eq_getElem (by omega), oD_some]
      have e0 : s.cps.toList[0]?.getD 0 = s.cps.toList[0]'(by omega) := by rw [List.getElem?_eq_getElem (by omega)]; rfl
      by_cases h3 : letterB (s.cps.toList[0]'(by omega)) = true
      · rw [if_pos (by simpa [letterB] using h3)]
        refine loopC_map (fun c => .bool (letterB c || digitB c)) (by omega) ?_ ?_
        · intro c hc k1 k2 h
          simp [lets_ok, digs_ok]
          simp only [letterB, digitB] at h
          split <;> rename_i h'
          · rw [show decide (97 ≤ c) = true by simp [h'.1], show decide (c ≤ 122) = true by simp [h'.2]] at h
            simpa using h
          · rw [show (decide (97 ≤ c) && decide (c ≤ 122)) = false by simpa using h'] at h
            simpa using h
        · simp
          have : nmB s = s.cps.toList.all fun c => letterB c || digitB c := by
            unfold nmB
            rw [e0, h3]
            simp [h1, h2]
          rw [this] at hQ
          simpa [Function.comp_def] using hQ
      · rw [if_neg (by simpa [letterB] using h3)]
        have : nmB s = false := by
          unfold nmB
          rw [e0, Bool.eq_false_iff.mpr h3]
          simp
        rwa [this] at hQ
    · rw [if_neg (by omega)]
      have : nmB s = false := by unfold nmB; simp [h2]
      rwa [this] at hQ
  · rw [if_neg (by omega)]
    have : nmB s = false := by unfold nmB; simp [h1]
    rwa [this] at hQ
/-- islands -/
def Isl (xs : List Str) : Prop := 2 ≤ xs.length ∧ xs.length ≤ 5 ∧ xs.Nodup ∧ ∀ x ∈ xs, nmB x = true
abbrev seaD (xs : List Str) : D := .obj c_Sea [.tup (xs.map .str), .tup ((spansN xs.length).map spD)]
theorem nmB_len {s : Str} (h : nmB s = true) : s.length ≤ 8 := by
  unfold nmB at h
  simp at h
  exact h.1.1.2
theorem s_wrong_island {xs : List Str} (h : Isl xs) (hQ : Q .none S) : Fs prg (n + 2) Γ i_wrong_island [.tup (xs.map .str)] S Q E := by
  show runF prg (Fs prg (n + 1)) Γ F_wrong_island _ S Q E
  simp [runF, F_wrong_island, startE]
  refine loopS_map (I := fun p ρ S' => S' = S ∧ ∃ a b, ρ = [some (.tup (xs.map .str)), a, b]) ⟨rfl, _, _, rfl⟩ ?_ ?_
  · rintro p ⟨x, i⟩ q ρ S' e ⟨rfl, a, b, rfl⟩ k hk
    obtain ⟨h1, h2, h3⟩ := zipIdx_at e
    simp at h1 h2 h3
    have hi : i < xs.length := (List.getElem?_eq_some_iff.mp h2).1
    have hx : nmB x = true := h.2.2.2 _ (List.mem_of_getElem? h2)
    simp
    refine s_is_name (by have := nmB_len hx; simp only [sl]; omega) ?_
    simp [hx, cutTo (Nat.le_of_lt hi)]
    rw [if_neg, if_neg]
    · exact hk _ _ ⟨rfl, _, _, rfl⟩
    · have := h.2.1; omega
    · intro hm
      obtain ⟨j, hj, e2⟩ := List.mem_take_iff_getElem.mp hm
      have h4 := (List.getElem?_eq_some_iff.mp h2).2
      have := (List.getElem_inj h.2.2.1).mp (e2.trans h4.symm)
      omega
  · rintro ρ S' ⟨rfl, a, b, rfl⟩
    exact hQ
theorem s_Sea_init {xs : List Str} {a : Nat} (h : Isl xs) (hQ : Q .none (S.put a (.ins c_Sea [.tup (xs.map .str), .tup ((spansN xs.length).map spD)]))) : Fs prg (n + 3) Γ i_Sea___init__ [.ptr a, .tup (xs.map .str)] (S.put a (.ins c_Sea [])) Q E := by
  show runF prg (Fs prg (n + 2)) Γ F_Sea___init__ _ _ Q E
  simp [runF, F_Sea___init__, startE]
  have := h.1
  first
    | refine ⟨by omega, ?_⟩
    | rw [if_neg (by omega)]
  refine s_wrong_island h ?_
  simp
  refine s_pairs_of h.2.1 ?_
  simpa using hQ
theorem pureL_map {α : Type} {f : α → D} (h : ∀ x, D.pure (f x) = true) (xs : List α) : D.pureL (xs.map f) = true := by
  induction xs with
  | nil => simp [D.pureL]
  | cons x r ih => simp [D.pureL, h, ih]
theorem del_put {a : Nat} {c : Cell} (h : S a = none) : (S.put a c).del a = S := by
  funext b
  unfold Store.del Store.put
  by_cases hb : b = a <;> simp [hb, h]
theorem s_Sea {xs : List Str} (h : Isl xs) (hQ : Q (seaD xs) S) : mkD prg (Fs prg (n + 3)) Γ c_Sea [] [.tup (xs.map .str)] S Q E := by
  show ∀ a, S a = none → Fs prg (n + 3) Γ i_Sea___init__ [.ptr a, .tup (xs.map .str)] (S.put a (.ins c_Sea [])) (mkQ c_Sea 2 false a S Q) E
  intro a ha
  refine s_Sea_init h ?_
  refine mkQ_ins (S := S) put_same rfl rfl ?_ (del_put ha) hQ
  simp [D.pureL, D.pure, pureL_map, pureL_map (f := D.str) fun _ => rfl]
theorem s_Sea_islands {x y : D} (hQ : Q x S) : Fs prg (n + 1) Γ i_Sea_islands [.obj c_Sea [x, y]] S Q E := by
  show runF prg (Fs prg n) Γ F_Sea_islands _ S Q E
  simpa [runF, F_Sea_islands, startE] using hQ
theorem s_Sea_len {xs : List Str} (h : xs.length ≤ 5) (hQ : Q (.int xs.length) S) : Fs prg (n + 1) Γ i_Sea___len__ [seaD xs] S Q E := by
  show runF prg (Fs prg n) Γ F_Sea___len__ _ S Q E
  simpa [runF, F_Sea___len__, startE] using hQ
end
end Sb.Law
set_option linter.all false
set_option maxRecDepth 20000
set_option maxHeartbeats 1000000
set_option autoImplicit false
/-! T reel: the draws of the first kind -/
namespace Sb.Law
open PySem
section
variable {n : Nat} {Γ : List Clo} {S : Store} {Q E : QD}
/-- the reel at a, with so many draws left -/
structure RS (S : Store) (a : Nat) (b : Nat) : Prop where
  ex : ∃ r0 r1 r2 : Int, S a = some (.lst [.int r0, .int r1, .int r2]) ∧ 0 ≤ r0 ∧ r0 < 2 ^ 40 ∧ 0 ≤ r1 ∧ 0 ≤ r2 ∧ r2 + b ≤ 2 ^ 60
/-- nothing but the reel changes -/
def Fr (a : Nat) (S S' : Store) : Prop := ∀ b, b ≠ a → S' b = S b
theorem Fr.refl {a : Nat} {S : Store} : Fr a S S := fun _ _ => rfl
theorem Fr.trans {a : Nat} {S S' S'' : Store} (h : Fr a S S') (h2 : Fr a S' S'') : Fr a S S'' := fun b hb => (h2 b hb).trans (h b hb)
theorem Fr.put {a : Nat} {c : Cell} : Fr a S (S.put a c) := fun b hb => put_ne hb
theorem RS.mono {a b c : Nat} (h : RS S a b) (hc : c ≤ b) : RS S a c := by
  obtain ⟨r0, r1, r2, h1, h2, h3, h4, h5, h6⟩ := h.ex
  exact ⟨r0, r1, r2, h1, h2, h3, h4, h5, by omega⟩
theorem RS.put {a b : Nat} {r0 r1 r2 : Int} (h2 : 0 ≤ r0) (h3 : r0 < 2 ^ 40) (h4 : 0 ≤ r1) (h5 : 0 ≤ r2) (h6 : r2 + b ≤ 2 ^ 60) : RS (S.put a (.lst [.int r0, .int r1, .int r2])) a b :=
  ⟨r0, r1, r2, put_same, h2, h3, h4, h5, h6⟩
theorem ifD {p : Prop} [Decidable p] {A B : Prop} (h1 : p → A) (h2 : ¬ p → B) : if p then A else B := by
  split <;> rename_i h
  · exact h1 h
  · exact h2 h
theorem s_reel {ns : List Int} {t : Nat} (ht : t < 100) (hl : ns.length < 100) (hQ : ∀ r0 r1 : Int, 0 ≤ r0 → r0 < 2 ^ 40 → 0 ≤ r1 → Q (.lst [.int r0, .int r1, .int 0]) S) : Fs prg (n + 1) Γ i__law_reel [.scr ns, .int t] S Q E := by
  show runF prg (Fs prg n) Γ F__law_reel _ S Q E
  simp [runF, F__law_reel, startE]
  refine ⟨mulOk_l (by omega) (by omega), ?_⟩
  refine loopS_map (I := fun p ρ S' => S' = S ∧ ∃ (r : Int) (c : Option D), 0 ≤ r ∧ r < 2 ^ 40 ∧ ρ = [some (.scr ns), some (.int t), some (.int r), c, none]) ⟨rfl, 70001 + 613 * t, none, by omega, by omega, rfl⟩ ?_ ?_
  · rintro p x q ρ S' e ⟨rfl, r, c, h1, h2, rfl⟩ k hk
    simp
    refine ⟨mulOk_r (by omega) (by omega), ?_⟩
    exact hk _ _ ⟨rfl, _, _, Int.emod_nonneg _ (by omega), Int.lt_trans (Int.emod_lt_of_pos _ (by omega)) (by omega), rfl⟩
  · rintro ρ S' ⟨rfl, r, c, h1, h2, rfl⟩
    simp
    split
    · rename_i hc
      rw [List.getElem?_eq_getElem hc]
      simp
      refine ⟨mulOk_r (by omega) (by omega), mulOk_r (by omega) (by omega), ?_⟩
      have a1 := Int.emod_nonneg (r * 23 + ns[t] * 41 + 9) (show (2147483543 : Int) ≠ 0 by omega)
      have a2 := Int.emod_lt_of_pos (r * 23 + ns[t] * 41 + 9) (show (0 : Int) < 2147483543 by omega)
      refine ifD (fun hh => hQ _ _ a1 (by omega) ?_) fun _ => hQ _ _ a1 (by omega) (by omega)
      omega
    · refine ⟨mulOk_l (by omega) (by omega), mulOk_r (by omega) (by omega), mulOk_r (by omega) (by omega), ?_⟩
      have a1 := Int.emod_nonneg (r * 23 + (11 * ↑t + 4) * 41 + 9) (show (2147483543 : Int) ≠ 0 by omega)
      have a2 := Int.emod_lt_of_pos (r * 23 + (11 * ↑t + 4) * 41 + 9) (show (0 : Int) < 2147483543 by omega)
      refine ifD (fun hh => hQ _ _ a1 (by omega) ?_) fun _ => hQ _ _ a1 (by omega) (by omega)
      omega
theorem s_upto {a b : Nat} {m : Int} (h : RS S a (b + 1)) (hm : 0 < m) (hm2 : m < 2 ^ 200) (hQ : ∀ (v : Int) (S' : Store), 0 ≤ v → v < m → RS S' a b → Fr a S S' → Q (.int v) S') : Fs prg (n + 1) Γ i__law_upto [.ptr a, .int m] S Q E := by
  obtain ⟨r0, r1, r2, h1, h2, h3, h4, h5, h6⟩ := h.ex
  show runF prg (Fs prg n) Γ F__law_upto _ S Q E
  simp [runF, F__law_upto, startE, ixS_ptr h1, setIx_ptr0 h1]
  refine ifD (fun hp => ⟨divOk_s hm hm2, ?_⟩) fun hp => ?_
  · exact hQ _ _ (Int.emod_nonneg _ (by omega)) (Int.emod_lt_of_pos _ hm) (.put h2 h3 (Int.ediv_nonneg h4 (by omega)) h5 (by omega)) .put
  · generalize hA : (r0 * 48119 + (r2 + 1) * (r2 + 1) * 31 + 5) % 2147483543 = A
    have a1 : 0 ≤ A := by rw [← hA]; exact Int.emod_nonneg _ (by omega)
    have a2 : A < 2147483543 := by rw [← hA]; exact Int.emod_lt_of_pos _ (by omega)
    refine ⟨mulOk_r (by omega) (by omega), mulOk_r (by omega) (by omega), mulOk_r (by omega) (by omega), mulOk_l (by omega) (by omega), divOk_s (by omega) (by omega), hm, ?_⟩
    generalize hB : (A * (25013 + A % 7001) + 3) % 2147483579 = B
    have b1 : 0 ≤ B := by rw [← hB]; exact Int.emod_nonneg _ (by omega)
    have b2 : B < 2147483579 := by rw [← hB]; exact Int.emod_lt_of_pos _ (by omega)
    exact hQ _ _ (Int.emod_nonneg _ (by omega)) (Int.emod_lt_of_pos _ hm) (.put b1 (by omega) h4 (by omega) (by omega)) .put
/-- .. of the items of a list -/
theorem s_pick {a b : Nat} {xs : List D} (h : RS S a (b + 1)) (hx : xs ≠ []) (hl : xs.length ≤ sl) (hQ : ∀ (i : Nat) (x : D) (S' : Store), xs[i]? = some x → RS S' a b → Fr a S S' → Q x S') : Fs prg (n + 2) Γ i__law_pick [.ptr a, .lst xs] S Q E := by
  show runF prg (Fs prg (n + 1)) Γ F__law_pick _ S Q E
  simp [runF, F__law_pick, startE]
  have : 0 < xs.length := List.length_pos_iff.mpr hx
  simp only [sl] at hl
  refine s_upto h (by omega) (by omega) fun v S' h1 h2 h3 h4 => ?_
  obtain ⟨i, rfl⟩ : ∃ i : Nat, v = i := ⟨v.toNat, by omega⟩
  have hi : i < xs.length := by omega
  simp [List.getElem?_eq_getElem hi]
  exact hQ i _ S' (List.getElem?_eq_getElem hi) h3 h4
/-- .. of the signs of a text -/
theorem s_picks {a b : Nat} {x : Str} (h : RS S a (b + 1)) (hx : 0 < x.length) (hl : x.length ≤ sl) (hQ : ∀ (c : Nat) (S' : Store), c ∈ x.cps.toList → RS S' a b → Fr a S S' → Q (.str ⟨#[c]⟩) S') : Fs prg (n + 2) Γ i__law_pick [.ptr a, .str x] S Q E := by
  show runF prg (Fs prg (n + 1)) Γ F__law_pick _ S Q E
  simp [runF, F__law_pick, startE]
  refine ⟨hl, ?_⟩
  have hl' := hl
  simp only [sl] at hl
  refine s_upto h (by omega) (by omega) fun v S' h1 h2 h3 h4 => ?_
  obtain ⟨i, rfl⟩ : ∃ i : Nat, v = i := ⟨v.toNat, by omega⟩
  have hi : i < x.cps.toList.length := show i < x.length by omega
  simp
  refine ⟨hl', ?_⟩
  rw [← Array.getElem?_toList, List.getElem?_eq_getElem hi]
  exact hQ _ S' (List.getElem_mem hi) h3 h4
theorem Str_app_toList {x y : Str} : (x ++ y).cps.toList = x.cps.toList ++ y.cps.toList := by
  show (x.cps ++ y.cps).toList = _
  simp
theorem Str_app_len {x y : Str} : (x ++ y).length = x.length + y.length := by
  show (x.cps ++ y.cps).size = _
  simp [Str.length]
abbrev abcS : Str := "abcdefghijklmnopqrstuvwxyz"
abbrev abc9S : Str := "abcdefghijklmnopqrstuvwxyz0123456789"
theorem abc_ok : ∀ c ∈ abcS.cps.toList, letterB c = true := by decide +kernel
theorem abc9_ok : ∀ c ∈ abc9S.cps.toList, (letterB c || digitB c) = true := by decide +kernel
theorem nm_one {c : Nat} (h : letterB c = true) : nmB ⟨#[c]⟩ = true := by
  simp [nmB, Str.length, h]
theorem nm_push {x : Str} {c : Nat} (hx : nmB x = true) (hl : x.length ≤ 7) (hc : (letterB c || digitB c) = true) : nmB (x ++ ⟨#[c]⟩) = true := by
  unfold nmB at hx ⊢
  simp only [Bool.and_eq_true, decide_eq_true_eq] at hx ⊢
  obtain ⟨⟨⟨h1, h2⟩, h3⟩, h4⟩ := hx
  have e : (⟨#[c]⟩ : Str).length = 1 := rfl
  rw [Str_app_len, Str_app_toList, e]
  have h5 : 0 < x.cps.toList.length := h1
  refine ⟨⟨⟨by omega, by omega⟩, ?_⟩, ?_⟩
  · rw [List.getElem?_append_left h5]; exact h3
  · rw [List.all_append, h4]
    simpa using hc
abbrev wordsS : List Str := ["islands", "island", "sea", "way", "in", "out", "a", "b"]
theorem words_ok : ∀ x ∈ wordsS, nmB x = true := by decide +kernel
theorem s_title {a b : Nat} (h : RS S a (b + 12)) (hQ : ∀ (x : Str) (S' : Store), nmB x = true → RS S' a b → Fr a S S' → Q (.str x) S') : Fs prg (n + 3) Γ i__law_title [.ptr a] S Q E := by
  show runF prg (Fs prg (n + 2)) Γ F__law_title _ S Q E
  simp [runF, F__law_title, startE]
  refine s_upto h (by omega) (by omega) fun v S1 _ _ h1 f1 => ?_
  simp
  refine ifD (fun _ => ?_) fun _ => ?_
  · refine s_pick (xs := wordsS.map .str) h1 (by simp) (by simp [sl]) fun i x S2 hx h2 f2 => ?_
    obtain ⟨s, hs, rfl⟩ := List.mem_map.mp (List.mem_of_getElem? hx)
    exact hQ s S2 (words_ok s hs) (h2.mono (by omega)) (f1.trans f2)
  · refine s_picks (x := abcS) h1 (by decide +kernel) (by decide +kernel) fun c S2 hc h2 f2 => ?_
    refine s_pick (xs := ([0, 0, 1, 2, 7] : List Nat).map fun k : Nat => D.int k) h2 (by simp) (by simp [sl]) fun i x S3 hx h3 f3 => ?_
    obtain ⟨k, hk, rfl⟩ := List.mem_map.mp (List.mem_of_getElem? hx)
    have hk7 : k ≤ 7 := by simp at hk; omega
    simp
    refine ⟨by omega, ?_⟩
    refine loopS_map (I := fun p ρ S' => ∃ (x : Str) (t : Option D), nmB x = true ∧ x.length = p.length + 1 ∧ RS S' a (b + (7 - p.length)) ∧ Fr a S S' ∧ ρ = [some (.ptr a), some (.str abcS), some (.str x), t]) ⟨⟨#[c]⟩, none, nm_one (abc_ok c hc), rfl, h3.mono (by simp), f1.trans (f2.trans f3), rfl⟩ ?_ ?_
    · rintro p x q ρ S' e ⟨x, t, h1, h2, h3, h4, rfl⟩ kk hkk
      obtain ⟨rfl, hx⟩ := range_at e
      simp
      refine ⟨by decide +kernel, ?_⟩
      refine s_picks (x := abc9S) (b := b + (7 - (p.length + 1))) (h3.mono (by omega)) (by decide +kernel) (by decide +kernel) fun c S2 hc h2' f2 => ?_
      simp
      have e1 : (⟨#[c]⟩ : Str).length = 1 := rfl
      refine ⟨by simp only [sl]; rw [e1]; omega, hkk _ _ ⟨_, _, nm_push h1 (by omega) (abc9_ok c hc), by rw [Str_app_len, e1, h2]; simp, by simpa using h2', h4.trans f2, rfl⟩⟩
    · rintro ρ S' ⟨x, t, h1, h2, h3, h4, rfl⟩
      simp
      exact hQ x S' h1 (h3.mono (by omega)) h4
def qS (k : Nat) : Str := Str.ofString "q" ++ Str.ofString (toString (k : Int))
theorem q_ok : ∀ k < 8, nmB (qS k) = true := by decide +kernel
theorem q_inj : ∀ k < 8, ∀ j < 8, qS k = qS j → k = j := by decide +kernel
theorem qs_nodup {m : Nat} (hm : m ≤ 8) : ((List.range m).map qS).Nodup := by
  have : ∀ m ≤ 8, ((List.range m).map qS).Nodup := by decide +kernel
  exact this m hm
theorem s_titles0 {a b m : Nat} (hm : m ≤ 8) (h : RS S a (b + 12 * m)) (hQ : ∀ (xs : List Str) (S' : Store), xs.Nodup → (∀ x ∈ xs, nmB x = true) → xs.length = m → RS S' a b → Fr a S S' → Q (.lst (xs.map .str)) S') : Fs prg (n + 4) Γ i__law_titles [.ptr a, .int m] S Q E := by
  show runF prg (Fs prg (n + 3)) Γ F__law_titles _ S Q E
  simp [runF, F__law_titles, startE]
  refine ⟨by omega, ?_⟩
  refine loopS_map (I := fun p ρ S' => ∃ (xs : List Str) (o1 o2 o3 : Option D), xs.length = p.length ∧ xs.Nodup ∧ (∀ x ∈ xs, nmB x = true) ∧ RS S' a (b + 12 * (m - p.length)) ∧ Fr a S S' ∧ ρ = [some (.ptr a), some (.int m), some (.own (xs.map .str)), o1, o2, o3, none, none]) ⟨[], none, none, none, rfl, by simp, by simp, h, .refl, rfl⟩ ?_ ?_
  · rintro p x q ρ S' e ⟨xs, o1, o2, o3, h1, h2, h3, h4, h5, rfl⟩ k hk
    obtain ⟨rfl, hx⟩ := range_at e
    simp
    refine s_title (h4.mono (b := b + 12 * (m - p.length)) (c := b + 12 * (m - (p.length + 1)) + 12) (by omega)) fun y S2 hy h6 f2 => ?_
    simp
    refine ⟨by omega, ?_⟩
    refine loopC_map (fun j => .str (qS j)) (by simp [sl]; omega) ?_ ?_
    · intro j hj k1 k2 hk1
      have hj5 := List.mem_range.mp hj
      simp
      refine ⟨Nat.lt_of_le_of_lt (Nat.log2_le_self j) (by omega), ?_, hk1⟩
      have : ∀ k : Nat, k < 8 → (Str.ofString "q").length + (Str.ofString (toString (k : Int))).length ≤ sl := by decide +kernel
      exact this j (by omega)
    · refine loopC_pure (fun j => !decide (qS j ∈ xs)) (fun j => .str (qS j)) (by simp [sl]; omega) ?_ ?_
      · intro j hj k1 k2 hk1 hk2
        simp
        simp at hk1 hk2
        by_cases hq : qS j ∈ xs <;> simp [hq, hk1, hk2]
      · simp
        have hne : (List.range m).filter (fun j => !decide (qS j ∈ xs)) ≠ [] := by
          intro he
          have h7 : ∀ z ∈ (List.range m).map qS, z ∈ xs := by
            intro z hz
            obtain ⟨j, hj, rfl⟩ := List.mem_map.mp hz
            have := List.filter_eq_nil_iff.mp he j hj
            simpa using this
          have := nodup_len (qs_nodup hm) h7
          simp at this
          omega
        have fin : ∀ z, nmB z = true → z ∉ xs → xs.length < sl ∧ k [some (.ptr a), some (.int m), some (.own (xs.map .str ++ [.str z])), some (.int p.length), some (.str y), some (.lst (((List.range m).filter (fun j => !decide (qS j ∈ xs))).map fun j => .str (qS j))), none, none] S2 := by
          intro z hz hz2
          refine ⟨by simp only [sl]; omega, hk _ _ ⟨xs ++ [z], some (.int p.length), some (.str y), some (.lst (((List.range m).filter (fun j => !decide (qS j ∈ xs))).map fun j => .str (qS j))), by simp [h1], ?_, ?_, by simpa using h6, h5.trans f2, by simp⟩⟩
          · rw [List.nodup_append]
            exact ⟨h2, by simp, by intro c hc d hd; simp at hd; subst hd; exact fun e => hz2 (e ▸ hc)⟩
          · intro c hc
            rcases List.mem_append.mp hc with hc | hc
            · exact h3 c hc
            · simp at hc; rw [hc]; exact hz
        refine ifD (fun hy2 => ?_) fun hy2 => fin y hy hy2
        obtain ⟨j, r, hj⟩ := List.exists_cons_of_ne_nil hne
        have hjm : j ∈ (List.range m).filter (fun j => !decide (qS j ∈ xs)) := by rw [hj]; exact List.mem_cons_self
        obtain ⟨hj1, hj2⟩ := List.mem_filter.mp hjm
        have hj3 := List.mem_range.mp hj1
        have := fin (qS j) (q_ok j (by omega)) (by simpa using hj2)
        rw [hj] at this ⊢
        simpa using this
  · rintro ρ S' ⟨xs, o1, o2, o3, h1, h2, h3, h4, h5, rfl⟩
    simp at h1 h4 ⊢
    exact hQ xs S' h2 h3 h1 h4 h5
theorem s_titles {a b m : Nat} (hm2 : 2 ≤ m) (hm : m ≤ 5) (h : RS S a (b + 12 * m)) (hQ : ∀ (xs : List Str) (S' : Store), Isl xs → xs.length = m → RS S' a b → Fr a S S' → Q (.lst (xs.map .str)) S') : Fs prg (n + 4) Γ i__law_titles [.ptr a, .int m] S Q E :=
  s_titles0 (by omega) h fun xs S' h1 h2 h3 h4 h5 => hQ xs S' ⟨by omega, by omega, h1, h2⟩ h3 h4 h5
theorem half_ok {m : Nat} (hm : m ≤ 5) : (m : Int) * ((m : Int) - 1) / 2 = ((spansN m).length : Int) := by
  have : ∀ m : Nat, m ≤ 5 → (m : Int) * ((m : Int) - 1) / 2 = ((spansN m).length : Int) := by decide +kernel
  exact this m hm
end
end Sb.Law
set_option linter.all false
set_option maxRecDepth 20000
set_option maxHeartbeats 1000000
set_option autoImplicit false
/-! T told2: what a call is told as; odd values -/
namespace Sb.Law
open PySem
section
variable {n : Nat} {Γ : List Clo} {S : Store} {Q E : QD}
theorem reprD_mono {d : D} {k k' : D → Prop} (h : ∀ s : Str, k (.str s) → k' (.str s)) (q : reprD d k) : reprD d k' := by
  unfold reprD at q ⊢
  split at q
  · exact ⟨q.1, h _ q.2⟩
  · exact q.elim
theorem getB_repr {d : D} {r : Env} {k : D → Prop} (q : reprD d k) : getB (some d :: r) 0 (fun d => reprD d k) := by
  cases d <;> first | exact q | (simp [reprD, D.py] at q; done)
theorem eqD_b3 (a b c x y z : Bool) : eqD (.lst [.bool a, .bool b, .bool c]) (.lst [.bool x, .bool y, .bool z]) = some (decide ([a, b, c] = [x, y, z])) :=
  eqD_fe (fe_lst fe_bool) (by omega) (x := [a, b, c]) (y := [x, y, z]) (fun _ _ => trivial) (fun _ _ => trivial)
@[simp] theorem noX_pair {a b : Str} : D.noX (.lst [.str a, .str b]) = true := rfl
theorem s_kept_InvalidIslands {v : D} (hQ : Q v S) : Fs prg (n + 1) Γ i__law_kept [.exc x_InvalidIslands [v], .int 6] S Q E := by
  show (∃ c ds r, ([.exc x_InvalidIslands [v], .int 6] : List D) = .exc c ds :: r) ∧ runF prg (Fs prg n) Γ F__law_kept _ S Q E
  refine ⟨⟨_, _, _, rfl⟩, ?_⟩
  simp [runF, F__law_kept, startE]
  exact hQ
theorem s_sort_InvalidIslands {v : D} (hQ : Q (.int 6) S) : Fs prg (n + 1) Γ i__law_sort [.exc x_InvalidIslands [v]] S Q E := by
  show (∃ c ds r, ([.exc x_InvalidIslands [v]] : List D) = .exc c ds :: r) ∧ runF prg (Fs prg n) Γ F__law_sort _ S Q E
  refine ⟨⟨_, _, _, rfl⟩, ?_⟩
  simp [runF, F__law_sort, startE]
  refine ⟨by simp [sl], by simp [sl], by simp [sl], by simp [sl], by simp [sl], ?_⟩
  rw [show countD (.bool true) _ = some 1 from rfl, onat_some]
  rw [if_pos (by rfl)]
  rw [show idxD (.bool true) _ = some 6 from rfl, onat_some]
  simpa [eqD_b3] using hQ
theorem s_told {cl : Clo} (h : ∀ Q' E' : QD, (∀ d S', reprD d (fun r => Q (.lst [.str "back", r]) S') → Q' d S') → (∀ v S', reprD v (fun r => Q (.lst [.str "islands", r]) S') → E' (.exc x_InvalidIslands [v]) S') → cl [] S Q' E') : Fs prg (n + 2) [cl] i__law_told [.clo 0] S Q E := by
  show (([.clo 0] : List D) = [.clo 0] ∧ [cl].length = 1) ∧ runF prg (Fs prg (n + 1)) [cl] F__law_told _ S Q E
  refine ⟨⟨rfl, rfl⟩, ?_⟩
  simp [runF, F__law_told, startE]
  refine ⟨by simp [sl], by simp [sl], by simp [sl], ?_⟩
  refine h _ _ (fun d S' q => getB_repr q) ?_
  · intro v S' q
    simp
    refine s_sort_InvalidIslands ?_
    simp
    refine s_kept_InvalidIslands ?_
    simp
    refine reprD_mono (fun s hs => ?_) q
    simpa using hs
end
end Sb.Law
set_option linter.all false
set_option maxRecDepth 20000
set_option maxHeartbeats 1000000
set_option autoImplicit false
/-! T odd: values of any kind; names by an own look -/
namespace Sb.Law
open PySem
section
variable {n : Nat} {Γ : List Clo} {S : Store} {Q E : QD}
/-- an element of any kind -/
def strB (s : Str) : Bool := decide (s.length ≤ 1000) && s.cps.toList.all fun c => decide (c < 0x110000)
def elB : D → Bool
  | .str s => strB s
  | .none => true | .bool _ => true | .int _ => true | .lst _ => true | .tup _ => true | .sd _ => true
  | _ => false
def El (d : D) : Prop := isAble d = true ∧ clsIn prg d = true ∧ ∀ s, d = .str s → s.length ≤ 1000 ∧ ∀ c ∈ s.cps.toList, c < 0x110000
theorem el_ok {d : D} (h : elB d = true) : El d := by
  cases d <;> first | (cases h; done) | skip
  all_goals refine ⟨rfl, rfl, fun s e => ?_⟩
  all_goals first | (cases e; done) | skip
  cases e
  have h : strB _ = true := h
  simp only [strB, Bool.and_eq_true, decide_eq_true_eq, List.all_eq_true] at h
  exact h
/-- .. whose elements, if it is a tuple, are of any kind -/
def valB (d : D) : Bool := elB d && match d with
  | .tup vs => decide (vs.length ≤ 20) && vs.all elB
  | _ => true
theorem val_el {d : D} (h : valB d = true) : elB d = true := (Bool.and_eq_true_iff.mp h).1
theorem val_tup {vs : List D} (h : valB (.tup vs) = true) : vs.length ≤ 20 ∧ ∀ x ∈ vs, elB x = true := by
  have := (Bool.and_eq_true_iff.mp h).2
  simpa using this
def titB : D → Bool
  | .str s => nmB s
  | _ => false
theorem titB_str {d : D} (h : titB d = true) : ∃ s, d = .str s ∧ nmB s = true := by
  cases d <;> first | exact ⟨_, rfl, h⟩ | (cases h; done)
theorem s_name_el {d : D} (h : El d) (hQ : Q (.bool (titB d)) S) : Fs prg (n + 1) Γ i_is_name [d] S Q E := by
  obtain ⟨h1, h2, h3⟩ := h
  cases d with
  | str s => exact s_is_name (by have := h3 s rfl; simp only [sl]; omega) hQ
  | _ =>
    first
      | (cases h1; done)
      | (show runF prg (Fs prg n) Γ F_is_name _ S Q E
         simp only [titB] at hQ
         simp [runF, F_is_name, startE, h2, isAble, clsIn, tyD]
         first | exact hQ | exact ⟨by simpa [clsIn] using h2, hQ⟩)
def oddsL : List D := [D.none, D.bool true, D.bool false, D.int 0, D.int 1, D.int (-1), D.int 7,
                D.int 1000000000000000000000000000001, D.str (Str.ofString ""), D.str (Str.ofString "a"),
                D.str (Str.ofString "A"), D.str (Str.ofString "islands"), D.str (Str.ofString "islands a b"), D.tup [],
                D.tup [D.int 1], D.tup [D.str (Str.ofString "a")],
                D.tup [D.str (Str.ofString "a"), D.str (Str.ofString "b")],
                D.tup [D.str (Str.ofString "a"), D.str (Str.ofString "b"), D.int 1], D.lst [], D.lst [D.int 1],
                D.lst [D.str (Str.ofString "a"), D.str (Str.ofString "b")], D.sd [], D.sd [(Str.ofString "a", 1)],
                D.tup [D.none], D.tup [D.tup []]]
theorem odds_ok : oddsL.all valB = true := by decide +kernel
theorem s_odd {a b : Nat} (h : RS S a (b + 1)) (hQ : ∀ (d : D) (S' : Store), valB d = true → RS S' a b → Fr a S S' → Q d S') : Fs prg (n + 3) Γ i__law_odd [.ptr a] S Q E := by
  show runF prg (Fs prg (n + 2)) Γ F__law_odd _ S Q E
  simp [runF, F__law_odd, startE]
  refine ⟨by simp [sl], by simp [sl], by simp [sl], ?_⟩
  exact s_pick (xs := oddsL) h (by simp [oddsL]) (by simp [oddsL, sl]) fun i x S' hx h1 f1 => hQ x S' (List.all_eq_true.mp odds_ok x (List.mem_of_getElem? hx)) h1 f1
end
end Sb.Law
set_option linter.all false
set_option maxRecDepth 20000
set_option maxHeartbeats 1000000
set_option autoImplicit false
/-! T shown: written texts have signs only -/
namespace Sb.Law
open PySem
theorem strOk_app {x y : Str} : PyData.strOk (x ++ y) = (PyData.strOk x && PyData.strOk y) := by
  show (x.cps ++ y.cps).all _ = _
  simp [PyData.strOk]
theorem strOk_join {sep : Str} (hs : PyData.strOk sep = true) : ∀ ts : List Str, (∀ t ∈ ts, PyData.strOk t = true) → PyData.strOk (Str.join sep ts) = true
  | [], _ => by
    simp only [Str.join]
    decide +kernel
  | [x], h => by
    simp only [Str.join]
    exact h x (by simp)
  | x :: y :: r, h => by
    have ih := strOk_join hs (y :: r) fun t ht => h t (List.mem_cons_of_mem _ ht)
    rw [show Str.join sep (x :: y :: r) = x ++ sep ++ Str.join sep (y :: r) by simp only [Str.join]]
    rw [strOk_app, strOk_app, h x (by simp), hs, ih]; rfl
theorem rt_all {q : Nat} {P : Nat → Bool} : ∀ (l : List Nat) (acc : Array Nat), acc.all P = true → (∀ c ∈ l, (Builtin.Str.reprChar q c).all P = true) → (l.foldl (fun out c => out ++ (Builtin.Str.reprChar q c).toArray) acc).all P = true
  | [], acc, h, _ => h
  | c :: r, acc, h, hc => by
    rw [List.foldl_cons]
    refine rt_all r _ ?_ fun d hd => hc d (List.mem_cons_of_mem _ hd)
    have := hc c (by simp)
    simp [h, this]
theorem rc_ok : ∀ c < 128, (Builtin.Str.reprChar 39 c).all (· < 0x110000) = true ∧ (Builtin.Str.reprChar 34 c).all (· < 0x110000) = true := by decide +kernel
theorem strOk_repr {s : Str} (h : ∀ c ∈ s.cps.toList, c < 128) : PyData.strOk (reprText s) = true := by
  unfold reprText PyData.strOk
  have hq : reprQuote s = 39 ∨ reprQuote s = 34 := by unfold reprQuote; split <;> simp
  rw [← Array.foldl_toList]
  have key : (List.foldl (fun out c => out ++ (Builtin.Str.reprChar (reprQuote s) c).toArray) #[reprQuote s] s.cps.toList).all (· < 0x110000) = true := by
    refine rt_all _ _ ?_ fun c hc => ?_
    · rcases hq with hq | hq <;> simp [hq]
    · have := rc_ok c (h c hc)
      rcases hq with hq | hq <;> rw [hq]
      · exact this.1
      · exact this.2
  rcases hq with hq | hq <;> simp [hq] at key ⊢ <;> exact key
theorem nm_small {s : Str} (h : nmB s = true) : ∀ c ∈ s.cps.toList, c < 128 := by
  intro c hc
  unfold nmB at h
  simp only [Bool.and_eq_true, List.all_eq_true] at h
  have := h.2 c hc
  simp [letterB, digitB] at this
  omega
theorem pys_strs (xs : List Str) : D.pys (xs.map .str) = some (xs.map .str) := by
  induction xs with
  | nil => rfl
  | cons x r ih => simp [D.pys, D.py, ih]
theorem shownAll_strs (xs : List Str) : PyData.shownAll (xs.map .str) = xs.map reprText := by
  induction xs with
  | nil => rfl
  | cons x r ih => simp [PyData.shownAll, PyData.shown, ih]
theorem strOk_names {xs : List Str} (h : ∀ x ∈ xs, nmB x = true) : PyData.strOk (shownD (.tup (xs.map .str))) = true := by
  unfold shownD
  rw [show (D.tup (xs.map .str)).py = some (.tuple (xs.map .str)) by simp [D.py, pys_strs]]
  show PyData.strOk (PyData.shown (.tuple (xs.map .str))) = true
  simp only [PyData.shown, shownAll_strs, tupleText]
  have hj : PyData.strOk (Str.join ", " (xs.map reprText)) = true := strOk_join (by decide +kernel) _ fun t ht => by
    obtain ⟨x, hx, rfl⟩ := List.mem_map.mp ht
    exact strOk_repr (nm_small (h x hx))
  rw [strOk_app, strOk_app, hj]
  split <;> decide +kernel
theorem strOk_small : ∀ i < 25, PyData.strOk (shownD (.int (i : Nat))) = true := by decide +kernel
theorem rp_names {xs : List Str} (h : ∀ x ∈ xs, nmB x = true) (hl : xs.length ≤ 20) {Q : D → Prop} (hQ : Q (.str (shownD (.tup (xs.map .str))))) : reprD (.tup (xs.map .str)) Q := by
  refine reprD_of (rp_tup (k := 0) (b := 8) fun x hx => ?_) (by omega) (by simp; omega) hQ
  obtain ⟨s, hs, rfl⟩ := List.mem_map.mp hx
  refine (rp_str fun c hc => ?_).mono (Nat.le_refl _) (nmB_len (h s hs))
  have := nm_small (h s hs) c hc
  omega
end Sb.Law
set_option linter.all false
set_option maxRecDepth 20000
set_option maxHeartbeats 1000000
set_option autoImplicit false
/-! T wrong: islands that are wrong; texts of so many signs -/
namespace Sb.Law
open PySem
section
variable {n : Nat} {Γ : List Clo} {S : Store} {Q E : QD}
/-- the index of the first island that is none -/
def wrI : List D → List D → Option Nat
  | _, [] => none
  | pre, x :: r => if titB x = true then (if (pre.any fun y => eqF y x) = true then some pre.length else if 5 ≤ pre.length then some pre.length else wrI (pre ++ [x]) r) else some pre.length
theorem wrI_lt : ∀ (rest pre : List D) (i : Nat), wrI pre rest = some i → i < pre.length + rest.length
  | [], _, _, h => by cases h
  | x :: r, pre, i, h => by
    unfold wrI at h
    repeat' split at h
    · cases h; simp
    · cases h; simp
    · have := wrI_lt r _ i h
      simp at this ⊢; omega
    · cases h; simp
theorem tit_flat {d : D} (h : titB d = true) : flatD d = true := by
  obtain ⟨s, rfl, _⟩ := titB_str h
  rfl
theorem in_tit {x : D} {pre : List D} (h : titB x = true) (hp : pre.all titB = true) : inD x pre = some (pre.any fun y => eqF y x) := by
  unfold inD
  rw [if_pos]
  rw [tit_flat h]
  simp only [Bool.true_and, List.all_eq_true] at hp ⊢
  exact fun y hy => tit_flat (hp y hy)
theorem get_el {x : D} (h : elB x = true) {r : Env} {k : D → Prop} : (getL (some x :: r) 0 k = k x) ∧ (getB (some x :: r) 0 k = k x) ∧ (getV (some x :: r) 0 k = k x) := by
  cases x <;> first | (cases h; done) | exact ⟨rfl, rfl, rfl⟩
theorem enumL_cons {k : Nat} {x : D} {r : List D} : enumL k (x :: r) = .tup [.int k, x] :: enumL (k + 1) r := rfl
theorem loopS_cons {body : D → Env → Store → (Env → Store → Prop) → Prop} {nx : Env → Store → Prop} {x : D} {r : List D} {ρ : Env} {S : Store} : loopS body nx (x :: r) ρ S = body x ρ S fun ρ S => loopS body nx r ρ S := by rw [loopS]
theorem cut_pre {pre rest : List D} : cut (pre ++ rest) none (some (pre.length : Int)) = pre := by
  rw [cutTo (by simp)]
  simp
theorem s_wrong {vs : List D} (hl : vs.length ≤ 20) (he : ∀ x ∈ vs, elB x = true) (hQ : Q (match wrI [] vs with | none => .none | some i => .int i) S) : Fs prg (n + 2) Γ i_wrong_island [.tup vs] S Q E := by
  show runF prg (Fs prg (n + 1)) Γ F_wrong_island _ S Q E
  simp [runF, F_wrong_island, startE]
  refine (?_ : ∀ (rest pre : List D) (o1 o2 : Option D), vs = pre ++ rest → pre.all titB = true → wrI pre rest = wrI [] vs → loopS _ _ (enumL pre.length rest) [some (.tup vs), o1, o2] S) vs [] none none rfl rfl rfl
  intro rest
  induction rest with
  | nil =>
    intro pre o1 o2 e ht hw
    rw [← hw] at hQ
    simpa [enumL, loopS, wrI] using hQ
  | cons x r ih =>
    intro pre o1 o2 e ht hw
    have hx : elB x = true := he x (by rw [e]; simp)
    rw [enumL_cons, loopS_cons]
    simp
    rw [(get_el hx).1]
    refine s_name_el (el_ok hx) ?_
    rw [← hw] at hQ
    simp only [wrI] at hQ
    simp only [tru_bool]
    refine ifD (fun h1 => ?_) fun h1 => ?_
    · rw [if_pos h1] at hQ
      rw [(get_el hx).2.1, e, cut_pre, in_tit h1 ht, ob_some]
      refine ifD (fun h2 => ?_) fun h2 => ?_
      · rw [if_pos h2] at hQ; exact hQ
      · rw [if_neg h2] at hQ
        refine ifD (fun h3 => ?_) fun h3 => ?_
        · rw [if_pos (by omega)] at hQ; exact hQ
        · have := ih (pre ++ [x]) (some (.int pre.length)) (some x) (by rw [e]; simp) (by simp [ht, h1]) (by rw [← hw]; simp only [wrI]; rw [if_pos h1, if_neg h2, if_neg (by omega)])
          rw [List.length_append] at this
          rw [← e]
          exact this
    · rw [if_neg h1] at hQ; exact hQ
theorem wrI_none : ∀ (rest pre : List D), wrI pre rest = none → rest.all titB = true ∧ (rest = [] ∨ pre.length + rest.length ≤ 5)
  | [], _, _ => ⟨rfl, .inl rfl⟩
  | x :: r, pre, h => by
    unfold wrI at h
    split at h
    · rename_i h1
      split at h
      · cases h
      · split at h
        · cases h
        · obtain ⟨h2, h3⟩ := wrI_none r _ h
          refine ⟨by simp [h1, h2], .inr ?_⟩
          rcases h3 with rfl | h3
          · simp; omega
          · simp at h3 ⊢; omega
    · cases h
theorem tits_strs : ∀ (vs : List D), vs.all titB = true → ∃ xs : List Str, vs = xs.map .str ∧ ∀ x ∈ xs, nmB x = true
  | [], _ => ⟨[], rfl, by simp⟩
  | d :: r, h => by
    rw [List.all_cons, Bool.and_eq_true] at h
    obtain ⟨s, rfl, hs⟩ := titB_str h.1
    obtain ⟨xs, rfl, hx⟩ := tits_strs r h.2
    exact ⟨s :: xs, rfl, by simpa using ⟨hs, hx⟩⟩
/-- the index that is told of islands that are none -/
def badV : D → Option D
  | .tup vs => if vs.length < 2 then some .none else match wrI [] vs with
    | some i => some (.int i)
    | none => none
  | _ => some .none
theorem badV_tup {vs : List D} : badV (.tup vs) = if vs.length < 2 then some .none else match wrI [] vs with
    | some i => some (.int i)
    | none => none := rfl
def dueP (v : D) : Str × Str := match badV v with
  | some w => (Str.ofString "islands", shownD w)
  | none => (Str.ofString "back", shownD v)
def dueD (v : D) : D := .lst [.str (dueP v).1, .str (dueP v).2]
theorem badV_none {v : D} (h : badV v = none) : ∃ xs : List Str, v = .tup (xs.map .str) ∧ (∀ x ∈ xs, nmB x = true) ∧ xs.length ≤ 5 ∧ 2 ≤ xs.length := by
  cases v with
  | tup vs =>
    first | rw [badV_tup] at h | unfold badV at h
    split at h
    · cases h
    · rename_i h1
      split at h
      · cases h
      · rename_i h2
        obtain ⟨h3, h4⟩ := wrI_none _ _ h2
        obtain ⟨xs, rfl, hx⟩ := tits_strs vs h3
        simp at h1 h4
        refine ⟨xs, rfl, hx, ?_, by omega⟩
        rcases h4 with rfl | h4
        · simp
        · exact h4
  | _ => cases h
theorem badV_some {v w : D} (hv : valB v = true) (h : badV v = some w) : w = .none ∨ ∃ i : Nat, i < 25 ∧ w = .int i := by
  cases v with
  | tup vs =>
    have hl := (val_tup hv).1
    first | rw [badV_tup] at h | unfold badV at h
    split at h
    · cases h; exact .inl rfl
    · split at h
      · rename_i i h2
        cases h
        have := wrI_lt _ _ _ h2
        simp at this
        exact .inr ⟨i, by omega, rfl⟩
      · cases h
  | _ => cases h; exact .inl rfl
theorem s_init {v : D} {a : Nat} (hv : valB v = true) (h1 : ∀ xs : List Str, v = .tup (xs.map .str) → (∀ x ∈ xs, nmB x = true) → xs.length ≤ 5 → badV v = none → Q .none (S.put a (.ins c_Sea [v, .tup ((spansN xs.length).map spD)])))
    (h2 : ∀ w, badV v = some w → E (.exc x_InvalidIslands [w]) (S.put a (.ins c_Sea []))) : Fs prg (n + 3) Γ i_Sea___init__ [.ptr a, v] (S.put a (.ins c_Sea [])) Q E := by
  have he := val_el hv
  show runF prg (Fs prg (n + 2)) Γ F_Sea___init__ _ _ Q E
  cases v with
  | tup vs =>
    obtain ⟨hl, hel⟩ := val_tup hv
    simp [runF, F_Sea___init__, startE]
    refine ifD (fun h3 => h2 _ ?_) fun h3 => ?_
    · rw [badV_tup, if_pos (by omega)]
    · refine s_wrong hl hel ?_
      cases hw : wrI [] vs with
      | some i =>
        simp
        exact h2 _ (by rw [badV_tup, if_neg (by omega), hw])
      | none =>
        have hb : badV (.tup vs) = none := by rw [badV_tup, if_neg (by omega), hw]
        obtain ⟨xs, e, hx, hx5, _⟩ := badV_none hb
        cases e
        simp
        refine s_pairs_of hx5 ?_
        have := h1 xs rfl hx hx5 hb
        simpa using this
  | _ =>
    first
      | (cases he; done)
      | (simp [runF, F_Sea___init__, startE]
         exact h2 _ rfl)
theorem dueP_none {v : D} (h : badV v = none) : dueP v = (Str.ofString "back", shownD v) := by unfold dueP; rw [h]
theorem dueP_some {v w : D} (h : badV v = some w) : dueP v = (Str.ofString "islands", shownD w) := by unfold dueP; rw [h]
theorem w_repr {w : D} (h : w = .none ∨ ∃ i : Nat, i < 25 ∧ w = .int i) {k : D → Prop} (hk : k (.str (shownD w))) : reprD w k := by
  rcases h with rfl | ⟨i, hi, rfl⟩
  · exact reprD_of rp_none (by omega) (by omega) hk
  · exact reprD_of (rp_int (by omega) (by omega)) (by omega) (by omega) hk
theorem strB_ok {s : Str} (h1 : s.length ≤ 1000) (h2 : ∀ c ∈ s.cps.toList, c < 0x110000) : elB (.str s) = true := by
  show strB s = true
  simp only [strB, Bool.and_eq_true, decide_eq_true_eq, List.all_eq_true]
  exact ⟨h1, h2⟩
theorem nm_elB {s : Str} (h : nmB s = true) : elB (.str s) = true := strB_ok (by have := nmB_len h; omega) fun c hc => by have := nm_small h c hc; omega
def okS (k : Nat) (s : Str) : Prop := s.length ≤ k ∧ ∀ c ∈ s.cps.toList, c < 0x110000
theorem ok_app {j k : Nat} {x y : Str} (h1 : okS j x) (h2 : okS k y) : okS (j + k) (x ++ y) := by
  refine ⟨by rw [Str_app_len]; have := h1.1; have := h2.1; omega, fun c hc => ?_⟩
  rw [Str_app_toList, List.mem_append] at hc
  exact hc.elim (h1.2 c) (h2.2 c)
theorem ok_cut {k : Nat} {s : Str} {lo hi : Option Int} (h : okS k s) : okS k ⟨(cut s.cps.toList lo hi).toArray⟩ := by
  refine ⟨?_, fun c hc => ?_⟩
  · show (cut s.cps.toList lo hi).toArray.size ≤ k
    have : s.cps.toList.length ≤ k := h.1
    simp [cut] at this ⊢
    omega
  · have hc : c ∈ cut s.cps.toList lo hi := by simpa using hc
    unfold cut at hc
    exact h.2 c (List.mem_of_mem_drop (List.mem_of_mem_take hc))
theorem ok_elB {k : Nat} {s : Str} (h : okS k s) (hk : k ≤ 1000) : elB (.str s) = true := strB_ok (Nat.le_trans h.1 hk) h.2
theorem nm_okS {s : Str} (h : nmB s = true) : okS 8 s := ⟨nmB_len h, fun c hc => by have := nm_small h c hc; omega⟩
theorem loopC_self {bnd : D → Store → (Env → Store → Prop) → Prop} {cond : Env → Store → QB → Prop} {elt : Env → Store → QD → Prop} (p : D → Bool) {S : Store} {Q : QL} {xs : List D} (hl : xs.length ≤ sl)
    (step : ∀ x ∈ xs, ∀ (k1 : QD) (k2 : Store → Prop), (p x = true → k1 x S) → (p x = false → k2 S) → bnd x S fun ρ S => cond ρ S fun b S => if b = true then elt ρ S k1 else k2 S) (hQ : Q (xs.filter p) S) : loopC bnd cond elt xs [] S Q := by
  have := loopC_pure (bnd := bnd) (cond := cond) (elt := elt) (emb := id) p id (Q := Q) hl step (by simpa using hQ)
  simpa using this
theorem RS.garb {a a' b : Nat} {c : Cell} (h : RS S a b) (ha : S a' = none) : RS (S.put a' c) a b := by
  obtain ⟨r0, r1, r2, h1, h2⟩ := h.ex
  refine ⟨r0, r1, r2, ?_, h2⟩
  rw [put_ne (fun e => by rw [e, ha] at h1; cases h1)]
  exact h1
theorem eq_pair {a b c d : Str} (h : PyData.strOk a = true ∧ PyData.strOk b = true ∧ PyData.strOk c = true ∧ PyData.strOk d = true) : eqD (.lst [.str a, .str b]) (.lst [.str c, .str d]) = some (decide ([a, b] = [c, d])) :=
  eqD_fe (fe_lst fe_str) (by omega) (x := [a, b]) (y := [c, d]) (by intro x hx; simp at hx; rcases hx with rfl | rfl; exact h.1; exact h.2.1) (by intro x hx; simp at hx; rcases hx with rfl | rfl; exact h.2.2.1; exact h.2.2.2)
end
end Sb.Law
set_option linter.all false
set_option maxRecDepth 20000
set_option maxHeartbeats 1000000
set_option autoImplicit false
/-! T sheet: a sea's text, read; its own == -/
namespace Sb.Law
open PySem
section
variable {n : Nat} {Γ : List Clo} {S : Store} {Q E : QD}
theorem cut1 {α : Type} {a : α} {l : List α} : cut (a :: l) (some 1) none = l := by
  unfold cut
  have e1 : HT.sIx (a :: l).length 0 (some 1) = 1 := by simp [HT.sIx]
  have e2 : HT.sIx (a :: l).length (a :: l).length none = (a :: l).length := by simp [HT.sIx]
  rw [e1, e2]
  simp
def sheetS (xs : List Str) : Str := Txt.join (Str.ofString " ") (Str.ofString "islands" :: xs)
theorem sum_le {l : List Nat} {b : Nat} (h : ∀ x ∈ l, x ≤ b) : l.sum ≤ b * l.length := by
  induction l with
  | nil => simp
  | cons a r ih =>
    have h1 := h a List.mem_cons_self
    have h2 := ih fun x hx => h x (List.mem_cons_of_mem _ hx)
    rw [List.sum_cons, List.length_cons, Nat.mul_add, Nat.mul_one]
    omega
theorem Isl.lens {xs : List Str} (h : Isl xs) : ((xs.map (·.length)).sum : Nat) ≤ 40 := by
  have h1 := sum_le (l := xs.map (·.length)) (b := 8) fun x hx => by
    obtain ⟨s, hs, rfl⟩ := List.mem_map.mp hx
    exact nmB_len (h.2.2.2 s hs)
  rw [List.length_map] at h1
  have := h.2.1
  omega
theorem isl_word : nmB (Str.ofString "islands") = true := by decide +kernel
theorem nm_nosp {s : Str} (h : nmB s = true) : 32 ∉ s.cps.toList := fun hm => by
  unfold nmB at h
  simp only [Bool.and_eq_true, List.all_eq_true] at h
  have := h.2 32 hm
  simp [letterB, digitB] at this
theorem split_sheet {xs : List Str} (h : Isl xs) : Txt.split (sheetS xs) (Str.ofString " ") = Str.ofString "islands" :: xs := by
  refine TL.split_join (s := 32) (S := []) (by decide +kernel) (by decide +kernel) (by simp) fun p hp => ?_
  rcases List.mem_cons.mp hp with e | e
  · rw [e]; exact nm_nosp isl_word
  · exact nm_nosp (h.2.2.2 p e)
theorem len_sp : (Str.ofString " ").length = 1 := by decide +kernel
theorem len_isl : (Str.ofString "islands").length = 7 := by decide +kernel
theorem nm_small' {s : Str} (h : nmB s = true) : ∀ c ∈ s.cps.toList, c < 128 := by
  unfold nmB at h
  simp only [Bool.and_eq_true, List.all_eq_true] at h
  intro c hc
  have := h.2 c hc
  simp only [letterB, digitB, Bool.or_eq_true, Bool.and_eq_true, decide_eq_true_eq] at this
  omega
theorem nm_ok' {s : Str} (h : nmB s = true) : PyData.strOk s = true := by
  unfold PyData.strOk
  rw [Array.all_eq_true_iff_forall_mem]
  intro c hc
  have := nm_small' h c (by simpa using hc)
  exact decide_eq_true (by omega)
theorem joinL_len {y : List Nat} : ∀ ps : List (List Nat), (TL.joinL y ps).length ≤ (ps.map (·.length)).sum + ps.length * y.length
  | [] => Nat.zero_le _
  | [p] => by simp [TL.joinL]
  | p :: q :: r => by
    have := joinL_len (y := y) (q :: r)
    show (p ++ (y ++ TL.joinL y (q :: r))).length ≤ _
    rw [List.length_append, List.length_append, List.map_cons, List.sum_cons, List.length_cons (a := p), Nat.add_mul, Nat.one_mul]
    omega
theorem sheet_len {xs : List Str} (h : Isl xs) : (sheetS xs).length ≤ 60 := by
  unfold sheetS
  rw [TL.join_eq, TL.len_tl, TL.tl_join]
  refine Nat.le_trans (joinL_len _) ?_
  have h5 := h.2.1
  have h6 := h.lens
  have e : (TL.tl (Str.ofString " ")).length = 1 := by decide +kernel
  have e2 : (TL.tl (Str.ofString "islands")).length = 7 := by decide +kernel
  have e3 : (List.map (fun x => x.length) (xs.map TL.tl)) = xs.map (·.length) := by
    rw [List.map_map]; exact List.map_congr_left fun x _ => (TL.len_tl x).symm
  rw [List.map_cons, List.map_cons, List.sum_cons, List.length_cons, List.length_map, e, e2, e3]
  omega
theorem join_isl {xs : List Str} (h : Isl xs) {k : D → Prop} (hQ : k (.str (sheetS xs))) : mtD .join (.str (Str.ofString " ")) [.lst (.str (Str.ofString "islands") :: xs.map .str)] k := by
  have h5 := h.2.1
  show oss (strsD (D.str (Str.ofString "islands") :: xs.map .str)) _
  rw [show strsD (D.str (Str.ofString "islands") :: xs.map .str) = some (Str.ofString "islands" :: xs) from strsD_map' (Str.ofString "islands" :: xs)]
  refine ⟨?_, hQ⟩
  have h6 := h.lens
  rw [List.map_cons, List.sum_cons, List.length_cons, len_sp, len_isl]
  simp only [sl]; omega
theorem joinL_mem {y : List Nat} {c : Nat} : ∀ {ps : List (List Nat)}, c ∈ TL.joinL y ps → c ∈ y ∨ ∃ p ∈ ps, c ∈ p
  | [], h => by cases h
  | [p], h => .inr ⟨p, List.mem_singleton.mpr rfl, h⟩
  | p :: q :: r, h => by
    have h : c ∈ p ++ (y ++ TL.joinL y (q :: r)) := h
    rcases List.mem_append.mp h with h | h
    · exact .inr ⟨p, List.mem_cons_self, h⟩
    · rcases List.mem_append.mp h with h | h
      · exact .inl h
      · rcases joinL_mem h with h | ⟨z, hz, h⟩
        · exact .inl h
        · exact .inr ⟨z, List.mem_cons_of_mem _ hz, h⟩
theorem sheet_small {xs : List Str} (h : Isl xs) : ∀ c ∈ (sheetS xs).cps.toList, c < 128 := fun c hc => by
  have hc : c ∈ TL.tl (sheetS xs) := hc
  unfold sheetS at hc
  rw [TL.join_eq, TL.tl_join] at hc
  rcases joinL_mem hc with e | ⟨p, hp, e⟩
  · have : ∀ c ∈ TL.tl (Str.ofString " "), c < 128 := by decide +kernel
    exact this c e
  · obtain ⟨s, hs, rfl⟩ := List.mem_map.mp hp
    rcases List.mem_cons.mp hs with rfl | hs
    · exact nm_small' isl_word c e
    · exact nm_small' (h.2.2.2 s hs) c e
theorem rp_sheet {xs : List Str} (h : Isl xs) : RP (.lst [.tup (xs.map .str), .str (sheetS xs)]) 2 200 := by
  have h5 := h.2.1
  have r1 : RP (.tup (xs.map .str)) 1 60 := (rp_tup (k := 0) (b := 8) fun x hx => by
    obtain ⟨s, hs, rfl⟩ := List.mem_map.mp hx
    have hn := h.2.2.2 s hs
    exact (rp_str fun c hc => Nat.lt_of_lt_of_le (nm_small' hn c hc) (by decide)).mono (Nat.le_refl _) (nmB_len hn)).mono (by omega) (by rw [List.length_map]; omega)
  have r2 : RP (.str (sheetS xs)) 1 60 := (rp_str fun c hc => Nat.lt_of_lt_of_le (sheet_small h c hc) (by decide)).mono (by omega) (sheet_len h)
  exact (rp_lst (k := 1) (b := 60) fun x hx => by
    rcases List.mem_cons.mp hx with rfl | hx
    · exact r1
    · rw [List.mem_singleton.mp hx]; exact r2).mono (by omega) (by simp)
theorem s_Sea_str {xs : List Str} (h : Isl xs) (hQ : Q (.str (sheetS xs)) S) : Fs prg (n + 1) Γ i_Sea___str__ [seaD xs] S Q E := by
  show runF prg (Fs prg n) Γ F_Sea___str__ _ S Q E
  simp [runF, F_Sea___str__, startE]
  have h5 := h.2.1
  refine ⟨by simp only [sl]; omega, join_isl h hQ⟩
theorem s_Sea_eq {xs ys : List Str} (hx : Isl xs) (hy : Isl ys) (hQ : Q (.bool (decide (xs = ys))) S) : Fs prg (n + 1) Γ i_Sea___eq__ [seaD xs, seaD ys] S Q E := by
  show runF prg (Fs prg n) Γ F_Sea___eq__ _ S Q E
  simp [runF, F_Sea___eq__, startE]
  rw [eqD_fe (fe_tup fe_str) (by decide) (x := xs) (y := ys) (fun x h => nm_ok' (hx.2.2.2 x h)) fun x h => nm_ok' (hy.2.2.2 x h)]
  exact hQ
end
end Sb.Law
set_option linter.all false
set_option maxRecDepth 20000
set_option maxHeartbeats 1000000
set_option autoImplicit false
/-! T pairs: the pairs of a sea -/
namespace Sb.Law
open PySem
section
variable {n : Nat} {Γ : List Clo} {S : Store} {Q E : QD}
def prL (xs : List Str) : List (Str × Str) := (spansN xs.length).map fun p => (xs[p.1]?.getD Str.empty, xs[p.2]?.getD Str.empty)
abbrev prD (xs : List Str) : D := .tup ((prL xs).map fun p => .tup [.str p.1, .str p.2])
theorem prL_ok {xs : List Str} (h : Isl xs) : PA (fun p : Str × Str => PyData.strOk p.1 = true ∧ PyData.strOk p.2 = true) (prL xs) := fun p hp => by
  obtain ⟨q, hq, rfl⟩ := List.mem_map.mp hp
  have key : ∀ i : Nat, PyData.strOk (xs[i]?.getD Str.empty) = true := fun i => by
    cases e : xs[i]? with
    | none => exact (by decide +kernel : PyData.strOk Str.empty = true)
    | some x => exact nm_ok' (h.2.2.2 x (List.mem_of_getElem? e))
  exact ⟨key _, key _⟩
theorem rp4 {xs : List Str} (h : Isl xs) : RP (.lst [.tup (xs.map .str), .str (sheetS xs), .int xs.length, .bool true]) 2 300 := by
  have h5 := h.2.1
  obtain r0 := rp_sheet h
  have r1 : RP (.tup (xs.map .str)) 1 60 := (rp_tup (k := 0) (b := 8) fun x hx => by
    obtain ⟨s, hs, rfl⟩ := List.mem_map.mp hx
    have hn := h.2.2.2 s hs
    exact (rp_str fun c hc => Nat.lt_of_lt_of_le (nm_small' hn c hc) (by decide)).mono (Nat.le_refl _) (nmB_len hn)).mono (by omega) (by rw [List.length_map]; omega)
  have r2 : RP (.str (sheetS xs)) 1 60 := (rp_str fun c hc => Nat.lt_of_lt_of_le (sheet_small h c hc) (by decide)).mono (by omega) (sheet_len h)
  have r3 : RP (.int xs.length) 1 60 := (rp_int (by omega) (by omega)).mono (by omega) (by omega)
  exact (rp_lst (k := 1) (b := 60) fun x hx => by
    rcases List.mem_cons.mp hx with rfl | hx
    · exact r1
    rcases List.mem_cons.mp hx with rfl | hx
    · exact r2
    rcases List.mem_cons.mp hx with rfl | hx
    · exact r3
    rw [List.mem_singleton.mp hx]; exact rp_bool.mono (by omega) (by omega)).mono (by omega) (by simp)
theorem s_pairs {xs : List Str} (h : Isl xs) (hQ : Q (prD xs) S) : Fs prg (n + 1) Γ i_Sea_pairs [seaD xs] S Q E := by
  show runF prg (Fs prg n) Γ F_Sea_pairs _ S Q E
  simp [runF, F_Sea_pairs, startE]
  refine loopC_map (fun p : Nat × Nat => .tup [.str (xs[p.1]?.getD Str.empty), .str (xs[p.2]?.getD Str.empty)]) (by have := spansN_len h.2.1; simp only [sl]; omega) ?_ ?_
  · intro p hp k1 k2 hk1
    obtain ⟨g1, g2, g3⟩ := spansTo_mem hp
    have g4 : p.1 < xs.length := by omega
    simp [spD]
    simp [List.getElem?_eq_getElem g4, List.getElem?_eq_getElem g2]
    simpa [List.getElem?_eq_getElem g4, List.getElem?_eq_getElem g2] using hk1
  · simp [prD, prL] at hQ ⊢
    simpa [Function.comp_def] using hQ
end
end Sb.Law
set_option linter.all false
set_option maxRecDepth 20000
set_option maxHeartbeats 1000000
set_option autoImplicit false
/-! T word: a word, or a value of another kind -/
namespace Sb.Law
open PySem
section
variable {n : Nat} {Γ : List Clo} {S : Store} {Q E : QD}
def sm128 (k : Nat) (s : Str) : Prop := s.length ≤ k ∧ ∀ c ∈ s.cps.toList, c < 128
theorem sm_app {j k : Nat} {x y : Str} (h1 : sm128 j x) (h2 : sm128 k y) : sm128 (j + k) (x ++ y) := by
  refine ⟨by rw [Str_app_len]; have := h1.1; have := h2.1; omega, fun c hc => ?_⟩
  rw [Str_app_toList, List.mem_append] at hc
  exact hc.elim (h1.2 c) (h2.2 c)
theorem sm_cut {k : Nat} {s : Str} {lo hi : Option Int} (h : sm128 k s) : sm128 k ⟨(cut s.cps.toList lo hi).toArray⟩ := by
  refine ⟨?_, fun c hc => ?_⟩
  · show (cut s.cps.toList lo hi).toArray.size ≤ k
    have : s.cps.toList.length ≤ k := h.1
    simp [cut] at this ⊢
    omega
  · have hc : c ∈ cut s.cps.toList lo hi := by simpa using hc
    unfold cut at hc
    exact h.2 c (List.mem_of_mem_drop (List.mem_of_mem_take hc))
theorem sm_elB {k : Nat} {s : Str} (h : sm128 k s) (hk : k ≤ 1000) : elB (.str s) = true := strB_ok (Nat.le_trans h.1 hk) fun c hc => by have := h.2 c hc; omega
theorem sm_mono {j k : Nat} {s : Str} (h : sm128 j s) (hk : j ≤ k) : sm128 k s := ⟨Nat.le_trans h.1 hk, h.2⟩
theorem sm_strOk {k : Nat} {s : Str} (h : sm128 k s) : PyData.strOk s = true := by
  unfold PyData.strOk
  rw [Array.all_eq_true_iff_forall_mem]
  intro c hc
  have := h.2 c (by simpa using hc)
  exact decide_eq_true (by omega)
theorem sm_nm {s : Str} (h : nmB s = true) : sm128 8 s := ⟨nmB_len h, nm_small h⟩
/-- a word, or a value of another kind -/
def Wd (d : D) : Prop := (d ∈ oddsL) ∨ ∃ s, d = .str s ∧ sm128 30 s
theorem odd_strs : ∀ d ∈ oddsL, (match d with | .str s => decide (s.length ≤ 30) && s.cps.toList.all (fun c => decide (c < 128)) | _ => true) = true := by decide +kernel
theorem Wd.str {s : Str} (h : Wd (.str s)) : sm128 30 s := by
  rcases h with h | ⟨t, e, h⟩
  · have := odd_strs _ h
    simp only [Bool.and_eq_true, decide_eq_true_eq, List.all_eq_true] at this
    exact this
  · cases e; exact h
theorem Wd.el {d : D} (h : Wd d) : elB d = true := by
  rcases h with h | ⟨t, rfl, h⟩
  · exact val_el (List.all_eq_true.mp odds_ok d h)
  · exact sm_elB h (by omega)
def eqS (e : Str) : D → Bool
  | .str s => decide (e = s)
  | _ => false
theorem s_odd2 {a b : Nat} (h : RS S a (b + 1)) (hQ : ∀ (d : D) (S' : Store), d ∈ oddsL → RS S' a b → Fr a S S' → Q d S') : Fs prg (n + 3) Γ i__law_odd [.ptr a] S Q E := by
  show runF prg (Fs prg (n + 2)) Γ F__law_odd _ S Q E
  simp [runF, F__law_odd, startE]
  refine ⟨by simp [sl], by simp [sl], by simp [sl], ?_⟩
  exact s_pick (xs := oddsL) h (by simp [oddsL]) (by simp [oddsL, sl]) fun i x S' hx h1 f1 => hQ x S' (List.mem_of_getElem? hx) h1 f1
end
end Sb.Law
set_option linter.all false
set_option maxRecDepth 20000
set_option maxHeartbeats 1000000
set_option autoImplicit false
/-! T page: a text of any words; what is told of islands -/
namespace Sb.Law
open PySem
section
variable {n : Nat} {Γ : List Clo} {S : Store} {Q E : QD}
theorem sheet_sm {xs : List Str} (h : ∀ x ∈ xs, sm128 30 x) (hl : xs.length ≤ 10) : sm128 400 (sheetS xs) := by
  constructor
  · unfold sheetS
    rw [TL.join_eq, TL.len_tl, TL.tl_join]
    refine Nat.le_trans (joinL_len _) ?_
    have e : (TL.tl (Str.ofString " ")).length = 1 := by decide +kernel
    have e2 : (TL.tl (Str.ofString "islands")).length = 7 := by decide +kernel
    have h1 := sum_le (l := (xs.map TL.tl).map (·.length)) (b := 30) fun x hx => by
      obtain ⟨y, hy, rfl⟩ := List.mem_map.mp hx
      obtain ⟨s, hs, rfl⟩ := List.mem_map.mp hy
      rw [← TL.len_tl]
      exact (h s hs).1
    rw [List.length_map, List.length_map] at h1
    rw [List.map_cons, List.map_cons, List.sum_cons, List.length_cons, List.length_map, e, e2]
    omega
  · intro c hc
    have hc : c ∈ TL.tl (sheetS xs) := hc
    unfold sheetS at hc
    rw [TL.join_eq, TL.tl_join] at hc
    rcases joinL_mem hc with e | ⟨p, hp, e⟩
    · have : ∀ c ∈ TL.tl (Str.ofString " "), c < 128 := by decide +kernel
      exact this c e
    · obtain ⟨s, hs, rfl⟩ := List.mem_map.mp hp
      rcases List.mem_cons.mp hs with rfl | hs
      · exact nm_small' isl_word c e
      · exact (h s hs).2 c e
theorem split_any {xs : List Str} (h : ∀ x ∈ xs, 32 ∉ x.cps.toList) : Txt.split (sheetS xs) (Str.ofString " ") = Str.ofString "islands" :: xs := by
  refine TL.split_join (s := 32) (S := []) (by decide +kernel) (by decide +kernel) (by simp) fun p hp => ?_
  rcases List.mem_cons.mp hp with e | e
  · rw [e]; exact nm_nosp isl_word
  · exact h p e
theorem join_any {xs : List Str} (h : ∀ x ∈ xs, sm128 30 x) (hl : xs.length ≤ 10) {k : D → Prop} (hQ : k (.str (sheetS xs))) : mtD .join (.str (Str.ofString " ")) [.lst (.str (Str.ofString "islands") :: xs.map .str)] k := by
  show oss (strsD (D.str (Str.ofString "islands") :: xs.map .str)) _
  rw [show strsD (D.str (Str.ofString "islands") :: xs.map .str) = some (Str.ofString "islands" :: xs) from strsD_map' (Str.ofString "islands" :: xs)]
  refine ⟨?_, hQ⟩
  have h1 := sum_le (l := xs.map (·.length)) (b := 30) fun x hx => by
    obtain ⟨s, hs, rfl⟩ := List.mem_map.mp hx
    exact (h s hs).1
  rw [List.length_map] at h1
  rw [List.map_cons, List.sum_cons, List.length_cons, len_sp, len_isl]
  simp only [sl]; omega
theorem rp_sm {k : Nat} {s : Str} (h : sm128 k s) : RP (.str s) 0 k := (rp_str fun c hc => Nat.lt_of_lt_of_le (h.2 c hc) (by decide)).mono (Nat.le_refl _) h.1
theorem sub_sp (s : Str) : subS (Str.ofString " ") s = decide (32 ∈ s.cps.toList) := by
  rw [show Str.ofString " " = ⟨#[32]⟩ by decide +kernel]
  exact StrLaws.found_one s 32
theorem sh_str (s : Str) : shownD (.str s) = reprText s := by
  show PyData.shown (.str s) = _
  rw [PyData.shown]
theorem ty_str {d : D} (h : tyD d .str = true) : ∃ s, d = .str s := by
  cases d <;> first | exact ⟨_, rfl⟩ | (cases h; done)
/-- the store, perhaps with an instance that was thrown away -/
def Garb (S S' : Store) : Prop := S' = S ∨ ∃ a' c, S a' = none ∧ S' = S.put a' c
theorem Garb.rs {S' : Store} {a b : Nat} (g : Garb S S') (h : RS S a b) : RS S' a b := by
  rcases g with rfl | ⟨a', c, h1, rfl⟩
  · exact h
  · exact h.garb h1
/-- a sea of wrong islands is told -/
theorem made_bad {v w : D} {m : Nat} {Γ' : List Clo} {Qx Ex : QD} (hv : valB v = true) (hb : badV v = some w) (hE : ∀ S', Garb S S' → Ex (.exc x_InvalidIslands [w]) S') : mkD prg (Fs prg (m + 3)) Γ' c_Sea [] [v] S Qx Ex := by
  show ∀ a, S a = none → Fs prg (m + 3) Γ' i_Sea___init__ [.ptr a, v] (S.put a (.ins c_Sea [])) (mkQ c_Sea 2 false a S Qx) Ex
  intro a ha
  refine s_init hv (fun xs e hx hl hb' => by rw [hb] at hb'; cases hb') fun w' hw => ?_
  rw [hb] at hw
  cases hw
  exact hE _ (.inr ⟨a, _, ha, rfl⟩)
theorem s_Sea_has {xs : List Str} {d : D} {c : Bool} (hd : elB d = true) (hi : inD d (xs.map .str) = some c) (hQ : Q (.bool c) S) : Fs prg (n + 1) Γ i_Sea___contains__ [seaD xs, d] S Q E := by
  show runF prg (Fs prg n) Γ F_Sea___contains__ _ S Q E
  simp [runF, F_Sea___contains__, startE]
  have g : ∀ (r : Env) (k : D → Prop), getB (some d :: r) 0 k = k d := fun r k => (get_el hd).2.1
  rw [g]
  rw [hi, ob_some]
  exact hQ
end
end Sb.Law
set_option linter.all false
set_option maxRecDepth 20000
set_option maxHeartbeats 1000000
set_option autoImplicit false
/-! T k02: seas made -/
namespace Sb.Law
open PySem
section
variable {n : Nat} {Γ : List Clo} {S : Store} {Q E : QD}
theorem s_Sea_tru {x y : D} (hQ : Q (.bool true) S) : Fs prg (n + 1) Γ i_Sea___bool__ [.obj c_Sea [x, y]] S Q E := by
  show runF prg (Fs prg n) Γ F_Sea___bool__ _ S Q E
  simpa [runF, F_Sea___bool__, startE] using hQ
theorem drop_range {xs : List Str} {i : Nat} : xs.drop (i + 1) = (List.range (xs.length - (i + 1))).map fun k => xs[i + 1 + k]?.getD Str.empty := by
  apply List.ext_getElem
  · simp
  · intro j h1 h2
    simp at h1 ⊢
    rw [List.getElem?_eq_getElem (by omega)]
    rfl
abbrev pr2 (p : Str × Str) : D := .tup [.str p.1, .str p.2]
def prT (xs : List Str) (i : Nat) : List (Str × Str) := (spansTo xs.length i).map fun p => (xs[p.1]?.getD Str.empty, xs[p.2]?.getD Str.empty)
theorem prT_succ {xs : List Str} {i : Nat} (h : i < xs.length) : prT xs (i + 1) = prT xs i ++ (xs.drop (i + 1)).map fun y => (xs[i]'h, y) := by
  unfold prT
  rw [spansTo_succ, List.map_append, drop_range, List.map_map, List.map_map]
  congr 1
  apply List.map_congr_left
  intro k hk
  simp [List.getElem?_eq_getElem h]
theorem prT_len {xs : List Str} (h : xs.length ≤ 5) (i : Nat) : (prT xs i).length ≤ 5 * i := by
  unfold prT
  rw [List.length_map]
  exact spansTo_len h i
theorem s_law_pairs {xs : List Str} (h : Isl xs) (hQ : Q (prD xs) S) : Fs prg (n + 1) Γ i__law_pairs [.lst (xs.map .str)] S Q E := by
  show runF prg (Fs prg n) Γ F__law_pairs _ S Q E
  simp [runF, F__law_pairs, startE]
  have h5 := h.2.1
  refine ⟨by omega, ?_⟩
  refine loopS_map (I := fun p ρ S' => S' = S ∧ p.length ≤ xs.length ∧ ∃ o, ρ = [some (.lst (xs.map .str)), some (.lst ((prT xs p.length).map pr2)), o, none]) ⟨rfl, by simp, none, rfl⟩ ?_ ?_
  · rintro p x q ρ S' e ⟨rfl, hp, o, rfl⟩ k hk
    obtain ⟨rfl, hx⟩ := range_at e
    simp
    have c1 : cut xs (some ((p.length : Int) + 1)) none = xs.drop (p.length + 1) := by
      rw [show (p.length : Int) + 1 = ((p.length + 1 : Nat) : Int) by omega]; exact cutFrom (by omega)
    rw [c1]
    refine loopC_map (fun y => pr2 (xs[p.length]'hx, y)) (by simp only [sl]; simp; omega) ?_ ?_
    · intro y hy k1 k2 hk1
      simp [List.getElem?_eq_getElem hx]
      exact hk1
    · have hp2 := prT_len h5 p.length
      refine ⟨by simp only [sl]; simp; omega, hk _ _ ⟨rfl, by simp; omega, some (.int p.length), ?_⟩⟩
      rw [List.length_append, List.length_singleton, prT_succ hx, List.map_append, List.map_map]
      rfl
  · rintro ρ S' ⟨rfl, hp, o, rfl⟩
    simp
    simpa [prD, prL, prT, spansN] using hQ
theorem rp_shows {xs : List Str} (h : Isl xs) : RP (.lst [.tup (xs.map .str), prD xs, .int xs.length, .str (sheetS xs), .bool true]) 3 100000 := by
  have h5 := h.2.1
  have r1 : RP (.tup (xs.map .str)) 2 900 := (rp_tup (k := 0) (b := 8) fun x hx => by
    obtain ⟨s, hs, rfl⟩ := List.mem_map.mp hx
    exact rp_sm (sm_nm (h.2.2.2 s hs))).mono (by omega) (by rw [List.length_map]; omega)
  have r2 : RP (.str (sheetS xs)) 2 900 := (rp_str fun c hc => Nat.lt_of_lt_of_le (sheet_small h c hc) (by decide)).mono (by omega) (by have := sheet_len h; omega)
  have key : ∀ i : Nat, RP (.str (xs[i]?.getD Str.empty)) 0 8 := fun i => by
    cases e : xs[i]? with
    | none => exact (rp_sm (k := 8) ⟨by decide +kernel, by decide +kernel⟩)
    | some x => exact rp_sm (sm_nm (h.2.2.2 x (List.mem_of_getElem? e)))
  have r3 : RP (prD xs) 2 900 := (rp_tup (k := 1) (b := 18) fun x hx => by
    obtain ⟨q, hq, rfl⟩ := List.mem_map.mp hx
    obtain ⟨p, hp, rfl⟩ := List.mem_map.mp hq
    exact (rp_tup (k := 0) (b := 8) fun y hy => by
      simp at hy
      rcases hy with rfl | rfl
      · exact key _
      · exact key _).mono (by omega) (by simp)).mono (by omega) (by
    rw [List.length_map]
    unfold prL
    rw [List.length_map]
    have := spansN_len h5
    omega)
  have r4 : RP (.int xs.length) 2 900 := (rp_int (by omega) (by omega)).mono (by omega) (by omega)
  exact (rp_lst (k := 2) (b := 900) fun x hx => by
    simp only [List.mem_cons, List.not_mem_nil, or_false] at hx
    rcases hx with rfl | rfl | rfl | rfl | rfl
    · exact r1
    · exact r3
    · exact r4
    · exact r2
    · exact rp_bool.mono (by omega) (by omega)).mono (by omega) (by simp)
theorem s_shows {xs : List Str} (h : Isl xs) (hQ : Q (.bool true) S) : Fs prg (n + 2) Γ i__law_shows [seaD xs, .lst (xs.map .str)] S Q E := by
  show runF prg (Fs prg (n + 1)) Γ F__law_shows _ S Q E
  simp [runF, F__law_shows, startE]
  refine s_Sea_islands ?_
  refine s_pairs h ?_
  refine s_Sea_len h.2.1 ?_
  simp
  refine ⟨by have := h.2.1; omega, ?_⟩
  refine s_Sea_str h ?_
  simp
  refine s_Sea_tru ?_
  simp
  refine s_law_pairs h ?_
  refine ⟨by have := h.2.1; simp only [sl]; omega, join_isl h ?_⟩
  refine reprD_of (rp_shows h) (by omega) (by omega) ?_
  refine reprD_of (rp_shows h) (by omega) (by omega) ?_
  simpa using hQ
theorem odd_shp : ∀ d ∈ oddsL, (flatD d || isSd d || (match d.py with | some p => SeqAt.shaped p | none => false)) = true := by decide +kernel
theorem odd_some {d : D} (h : d ∈ oddsL) {xs : List Str} (hx : ∀ x ∈ xs, nmB x = true) : ∃ c, inD d (xs.map .str) = some c := by
  have hall : (xs.map D.str).all flatD = true := by simp [flatD]
  have hst : (xs.map D.str).all isSt = true := by simp [isSt]
  unfold inD
  by_cases h1 : (flatD d && (xs.map D.str).all flatD) = true
  · rw [if_pos h1]; exact ⟨_, rfl⟩
  · rw [if_neg h1]
    by_cases h2 : (isSd d && (xs.map D.str).all isSt) = true
    · rw [if_pos h2]; exact ⟨_, rfl⟩
    · rw [if_neg h2]
      rw [hall, Bool.and_true] at h1
      rw [hst, Bool.and_true] at h2
      have h3 := odd_shp d h
      rw [Bool.eq_false_iff.mpr h1, Bool.eq_false_iff.mpr h2] at h3
      simp only [Bool.false_or] at h3
      cases e : d.py with
      | none => rw [e] at h3; cases h3
      | some p =>
        rw [e] at h3
        rw [pys_strs]
        simp only
        have h3 : SeqAt.shaped p = true := h3
        have hl : PyData.canLayAll0 (xs.map PyData.str) = true := fe_lay (P := fun s => PyData.strOk s = true) (fun x h => by simpa [PyData.canLay0] using h) xs fun x h => nm_ok' (hx x h)
        rw [h3, hl]
        exact ⟨_, rfl⟩
theorem s_SeaK {xs : List Str} (h : Isl xs) (hQ : Q (seaD xs) S) : mkD prg (Fs prg (n + 3)) Γ c_Sea [1] [.tup (xs.map .str)] S Q E := by
  show ∀ a, S a = none → Fs prg (n + 3) Γ i_Sea___init__ [.ptr a, .tup (xs.map .str)] (S.put a (.ins c_Sea [])) (mkQ c_Sea 2 false a S Q) E
  intro a ha
  refine s_Sea_init h ?_
  refine mkQ_ins (S := S) put_same rfl rfl ?_ (del_put ha) hQ
  simp [D.pureL, D.pure, pureL_map, pureL_map (f := D.str) fun _ => rfl]
theorem atI_lastm {xs : List Str} (h : xs ≠ []) : ∃ z ∈ xs, L2.atI (xs.map D.str) (-1) = some (.str z) := by
  obtain ⟨ys, z, rfl⟩ : ∃ ys z, xs = ys ++ [z] := ⟨xs.dropLast, xs.getLast h, (List.dropLast_concat_getLast h).symm⟩
  exact ⟨z, by simp, by rw [List.map_append]; exact atI_last⟩
theorem str_some (s : Str) (xs : List Str) : ∃ c, inD (.str s) (xs.map .str) = some c := by
  unfold inD
  rw [if_pos (by simp [flatD])]
  exact ⟨_, rfl⟩
def GdW (xs : List Str) (d : D) : Prop := elB d = true ∧ ∃ c, inD d (xs.map .str) = some c
theorem gd_str {k : Nat} {s : Str} (xs : List Str) (h : sm128 k s) (hk : k ≤ 1000) : GdW xs (.str s) := ⟨sm_elB h hk, str_some s xs⟩
def Thing (d : D) : Prop := (isAble d = true ∧ clsIn prg d = true) ∧ bltD d = true ∧ clsOf d (fun _ => none) = none ∧ tyD d (.cls c_Sea) = false
theorem s_Sea_eqn {xs : List Str} {d : D} (hd : isAble d = true ∧ clsIn prg d = true) (ht : tyD d (.cls c_Sea) = false) (hQ : Q (.bool false) S) : Fs prg (n + 1) Γ i_Sea___eq__ [seaD xs, d] S Q E := by
  show runF prg (Fs prg n) Γ F_Sea___eq__ _ S Q E
  simp [runF, F_Sea___eq__, startE]
  have hb : ∀ (r : Env) (k : D → Prop), k d → getB (some d :: r) 0 k := fun r k hk => by
    cases d <;> first | exact hk | (cases hd.1; done)
  refine hb _ _ ⟨hd, ?_⟩
  simp [ht]
  exact hQ
set_option maxHeartbeats 8000000 in
theorem s_right {a b : Nat} (h : RS S a (b + 2000)) (hQ : ∀ S', Q (.bool true) S') : Fs prg (n + 8) Γ i__law_right [.ptr a] S Q E := by
  show runF prg (Fs prg (n + 7)) Γ F__law_right _ S Q E
  simp [runF, F__law_right, startE]
  refine s_upto (b := b + 1999) h (by omega) (by omega) fun m S1 f1 f2 h1 r1 => ?_
  obtain ⟨m, rfl⟩ : ∃ k : Nat, m = k := ⟨m.toNat, by omega⟩
  simp
  rw [show (2 + (m : Int)) = ((2 + m : Nat) : Int) by omega]
  refine s_titles (b := b + 1500) (by omega) (by omega) (h1.mono (by omega)) fun xs S2 hx hxl h2 r2 => ?_
  simp
  refine s_Sea hx ?_
  simp
  refine s_SeaK hx ?_
  simp
  refine s_shows hx ?_
  simp
  refine s_shows hx ?_
  simp
  refine s_Sea_eq hx hx ?_
  simp
  refine s_Sea_eq hx hx ?_
  simp
  refine s_Sea_eq hx hx ?_
  simp
  refine reprD_of (k := 1) (b := 100) ((rp_lst (k := 0) (b := 0) fun x hx => by
    simp only [List.mem_cons, List.not_mem_nil, or_false] at hx
    rcases hx with rfl | rfl | rfl <;> exact rp_bool).mono (by omega) (by simp)) (by omega) (by omega) ?_
  rw [show shownD (.lst [.bool true, .bool false, .bool true]) = Str.ofString "[True, False, True]" by decide +kernel]
  simp
  refine s_titles0 (m := 4) (b := b + 1000) (by omega) (h2.mono (by omega)) fun ys S3 _ hyn hyl h3 r3 => ?_
  obtain ⟨z, hz, ez⟩ := atI_lastm (xs := xs) (fun e => by rw [e] at hxl; simp at hxl; omega)
  have h0 : 0 < xs.length := by omega
  have hl5 := hx.2.1
  have n0 := hx.2.2.2 _ (List.getElem_mem h0)
  have nz := hx.2.2.2 z hz
  have k1 : sm128 9 (xs[0]'h0 ++ Str.ofString "0") := sm_app (sm_nm n0) (k := 1) ⟨by decide +kernel, by decide +kernel⟩
  have k2 : sm128 8 ⟨(cut z.cps.toList none (some 1)).toArray⟩ := sm_cut (sm_nm nz)
  have k3 : sm128 400 (sheetS xs) := ⟨by have := sheet_len hx; omega, sheet_small hx⟩
  have k4 : sm128 0 (Str.ofString "") := ⟨by decide +kernel, by decide +kernel⟩
  simp [ez, List.getElem?_eq_getElem h0, slD]
  have e1 : (Str.ofString "0").length = 1 := by decide +kernel
  have l0 := nmB_len n0
  have lz := nmB_len nz
  refine ⟨by simp only [sl]; omega, by rw [e1]; simp only [sl]; omega, by simp only [sl]; omega, ?_⟩
  refine s_Sea_str hx ?_
  simp
  refine s_odd2 (b := b + 999) h3 fun d S4 hd h4 r4 => ?_
  refine ⟨by simp only [sl]; omega, ?_⟩
  have hd2 : Wd d := .inl hd
  refine loopS_inv (I := fun p ρ S' => S' = S4 ∧ ∃ o, ρ = [some (.ptr a), some (.lst (xs.map .str)), o, none, some (seaD xs), some (seaD xs)]) ⟨rfl, none, rfl⟩ ?_ ?_
  · rintro p x q ρ S' e ⟨rfl, o, rfl⟩ k hk
    have gx : GdW xs x := by
      have hm : x ∈ List.map D.str ys ++ (List.map D.str xs ++ [D.str (xs[0] ++ Str.ofString "0"), D.str { cps := (cut z.cps.toList none (some 1)).toArray }, D.str (Str.ofString ""), .str (sheetS xs), d]) := by rw [e]; simp
      rw [List.mem_append, List.mem_append] at hm
      rcases hm with hm | hm | hm
      · obtain ⟨y, hy, rfl⟩ := List.mem_map.mp hm
        exact gd_str xs (sm_nm (hyn y hy)) (by omega)
      · obtain ⟨y, hy, rfl⟩ := List.mem_map.mp hm
        exact gd_str xs (sm_nm (hx.2.2.2 y hy)) (by omega)
      · simp only [List.mem_cons, List.not_mem_nil, or_false] at hm
        rcases hm with rfl | rfl | rfl | rfl | rfl
        · exact gd_str xs k1 (by omega)
        · exact gd_str xs k2 (by omega)
        · exact gd_str xs k4 (by omega)
        · exact gd_str xs k3 (by omega)
        · exact ⟨hd2.el, odd_some hd hx.2.2.2⟩
    obtain ⟨ge, c, gc⟩ := gx
    have g2 : ∀ (r : Env) (k : D → Prop), getB (some x :: r) 0 k = k x := fun r k => (get_el ge).2.1
    have g3 : ∀ (r : Env) (k : D → Prop), getV (some x :: r) 0 k = k x := fun r k => (get_el ge).2.2
    simp [g2, g3]
    refine s_Sea_has ge gc ?_
    simp
    refine reprD_of rp_bool (by omega) (by omega) ?_
    rw [gc, ob_some]
    refine reprD_of rp_bool (by omega) (by omega) ?_
    simp
    exact hk _ _ ⟨rfl, _, rfl⟩
  · rintro ρ S' ⟨rfl, o, rfl⟩
    simp
    refine s_Sea_str hx ?_
    simp
    refine s_pairs hx ?_
    refine ⟨by simp only [sl]; omega, ?_⟩
    have thg : ∀ x ∈ [D.none, D.int 0, D.bool true, .str (sheetS xs), .tup (xs.map .str), .lst (xs.map .str), D.tup [seaD xs], D.lst [seaD xs], prD xs, D.sd []], (isAble x = true ∧ clsIn prg x = true) ∧ tyD x (.cls c_Sea) = false ∧ sameC (seaD xs) x S' ∧ (∀ (r : Env) (k : D → Prop), getV (some x :: r) 0 k = k x) := by
      intro x hx
      simp only [List.mem_cons, List.not_mem_nil, or_false] at hx
      rcases hx with rfl | rfl | rfl | rfl | rfl | rfl | rfl | rfl | rfl | rfl <;> exact ⟨⟨rfl, rfl⟩, rfl, rfl, fun _ _ => rfl⟩
    refine loopS_inv (I := fun p ρ S2 => S2 = S' ∧ ∃ o o2, ρ = [some (.ptr a), some (.lst (xs.map .str)), o, o2, some (seaD xs), some (seaD xs)]) ⟨rfl, _, _, rfl⟩ ?_ ?_
    · rintro p x q ρ S2 e ⟨rfl, o, o2, rfl⟩ k hk
      obtain ⟨t1, t2, t3, t4⟩ := thg x (by rw [e]; simp)
      simp [t4]
      refine ⟨t3, s_Sea_eqn t1 t2 ?_⟩
      simp
      refine ⟨t3, s_Sea_eqn t1 t2 ?_⟩
      simp
      refine reprD_of (k := 1) (b := 100) ((rp_lst (k := 0) (b := 0) fun x hx => by
        simp only [List.mem_cons, List.not_mem_nil, or_false] at hx
        rcases hx with rfl | rfl <;> exact rp_bool).mono (by omega) (by simp)) (by omega) (by omega) ?_
      rw [show shownD (.lst [.bool false, .bool true]) = Str.ofString "[False, True]" by decide +kernel]
      simp
      exact hk _ _ ⟨rfl, _, _, rfl⟩
    · rintro ρ S2 ⟨rfl, o, o2, rfl⟩
      simp
      refine s_told fun Q' E' q1 q2 => ⟨rfl, made_bad (m := n + 4) (v := .lst (xs.map .str)) (w := .none) rfl rfl fun S5 g5 => q2 _ _ (reprD_of rp_none (by omega) (by omega) ?_)⟩
      rw [show shownD .none = Str.ofString "None" by decide +kernel]
      have ok : PyData.strOk (Str.ofString "islands") = true ∧ PyData.strOk (Str.ofString "None") = true := by decide +kernel
      rw [eq_pair ⟨ok.1, ok.2, ok.1, ok.2⟩]
      simp
      refine s_shows hx (hQ _)
theorem s_law {ns : List Int} (hl : ns.length < 100) (hQ : ∀ S' : Store, Q (.bool true) S') : Fs prg (n + 9) Γ i_law [.scr ns] S Q E := by
  show runF prg (Fs prg (n + 8)) Γ F_law _ S Q E
  simp [runF, F_law, startE]
  refine ⟨by omega, ?_⟩
  generalize hK : (if 2 < if 5 < (ns.length : Int) then 5 else (ns.length : Int) then if 5 < (ns.length : Int) then 5 else (ns.length : Int) else 2).toNat = K
  have hK5 : K ≤ 5 := by omega
  refine loopC_inv (I := fun p acc _ => acc = List.replicate p.length (.bool true)) (by simp [sl]; omega) rfl ?_ ?_
  · rintro p x q acc S' e rfl k1 k2 hk1 hk2
    obtain ⟨t, ht, rfl⟩ := List.mem_map.mp (show x ∈ (List.range K).map fun k : Nat => D.int k by rw [e]; simp)
    have := List.mem_range.mp ht
    simp
    refine s_reel (by omega) hl fun r0 r1 a1 a2 a3 => ?_
    simp
    intro a ha
    refine s_right (b := 0) (.put a1 a2 a3 (by omega) (by omega)) fun S2 => ?_
    exact hk1 _ _ (by simp [List.replicate_succ'])
  · rintro acc S' rfl
    simp
    exact hQ S'
end
end Sb.Law
set_option maxHeartbeats 1000000
set_option Elab.async false
set_option linter.all false
set_option maxRecDepth 100000
set_option maxHeartbeats 0
namespace Sb.Law
open PySem
theorem pat0 : PatS F_is_name 1 [] [] := fun fd T us ws its h1 h2 h3 => match us, h1, ws, h2, its, h3 with | [u0], _, [], _, [], _ => ⟨_, rfl, rfl⟩
theorem pat1 : PatS F_wrong_island 1 [] [] := fun fd T us ws its h1 h2 h3 => match us, h1, ws, h2, its, h3 with | [u0], _, [], _, [], _ => ⟨_, rfl, rfl⟩
theorem pat2 : PatS F_pairs_of 1 [] [] := fun fd T us ws its h1 h2 h3 => match us, h1, ws, h2, its, h3 with | [u0], _, [], _, [], _ => ⟨_, rfl, rfl⟩
theorem pat3 : PatS F_Sea___init__ 1 [("islands" : Str)] [1] := fun fd T us ws its h1 h2 h3 => match us, h1, ws, h2, its, h3 with | [u0], _, [w0], _, [], _ => ⟨_, rfl, rfl⟩
theorem pat4 : PatS F_Sea___init__ 2 [] [] := fun fd T us ws its h1 h2 h3 => match us, h1, ws, h2, its, h3 with | [u0, u1], _, [], _, [], _ => ⟨_, rfl, rfl⟩
theorem pat5 : PatS F_Sea_islands 1 [] [] := fun fd T us ws its h1 h2 h3 => match us, h1, ws, h2, its, h3 with | [u0], _, [], _, [], _ => ⟨_, rfl, rfl⟩
theorem pat6 : PatS F_Sea_pairs 1 [] [] := fun fd T us ws its h1 h2 h3 => match us, h1, ws, h2, its, h3 with | [u0], _, [], _, [], _ => ⟨_, rfl, rfl⟩
theorem pat7 : PatS F_Sea___contains__ 2 [] [] := fun fd T us ws its h1 h2 h3 => match us, h1, ws, h2, its, h3 with | [u0, u1], _, [], _, [], _ => ⟨_, rfl, rfl⟩
theorem pat8 : PatS F_Sea___len__ 1 [] [] := fun fd T us ws its h1 h2 h3 => match us, h1, ws, h2, its, h3 with | [u0], _, [], _, [], _ => ⟨_, rfl, rfl⟩
theorem pat9 : PatS F_Sea___bool__ 1 [] [] := fun fd T us ws its h1 h2 h3 => match us, h1, ws, h2, its, h3 with | [u0], _, [], _, [], _ => ⟨_, rfl, rfl⟩
theorem pat10 : PatS F_Sea___eq__ 2 [] [] := fun fd T us ws its h1 h2 h3 => match us, h1, ws, h2, its, h3 with | [u0, u1], _, [], _, [], _ => ⟨_, rfl, rfl⟩
theorem pat11 : PatS F_Sea___str__ 1 [] [] := fun fd T us ws its h1 h2 h3 => match us, h1, ws, h2, its, h3 with | [u0], _, [], _, [], _ => ⟨_, rfl, rfl⟩
theorem pat12 : PatS F__law_reel 2 [] [] := fun fd T us ws its h1 h2 h3 => match us, h1, ws, h2, its, h3 with | [u0, u1], _, [], _, [], _ => ⟨_, rfl, rfl⟩
theorem pat13 : PatS F__law_upto 2 [] [] := fun fd T us ws its h1 h2 h3 => match us, h1, ws, h2, its, h3 with | [u0, u1], _, [], _, [], _ => ⟨_, rfl, rfl⟩
theorem pat14 : PatS F__law_pick 2 [] [] := fun fd T us ws its h1 h2 h3 => match us, h1, ws, h2, its, h3 with | [u0, u1], _, [], _, [], _ => ⟨_, rfl, rfl⟩
theorem pat15 : PatS F__law_title 1 [] [] := fun fd T us ws its h1 h2 h3 => match us, h1, ws, h2, its, h3 with | [u0], _, [], _, [], _ => ⟨_, rfl, rfl⟩
theorem pat16 : PatS F__law_titles 2 [] [] := fun fd T us ws its h1 h2 h3 => match us, h1, ws, h2, its, h3 with | [u0, u1], _, [], _, [], _ => ⟨_, rfl, rfl⟩
theorem pat17 : PatS F__law_odd 1 [] [] := fun fd T us ws its h1 h2 h3 => match us, h1, ws, h2, its, h3 with | [u0], _, [], _, [], _ => ⟨_, rfl, rfl⟩
theorem pat18 : PatS F__law_sort 1 [] [] := fun fd T us ws its h1 h2 h3 => match us, h1, ws, h2, its, h3 with | [u0], _, [], _, [], _ => ⟨_, rfl, rfl⟩
theorem pat19 : PatS F__law_kept 2 [] [] := fun fd T us ws its h1 h2 h3 => match us, h1, ws, h2, its, h3 with | [u0, u1], _, [], _, [], _ => ⟨_, rfl, rfl⟩
theorem pat20 : PatS F__law_told 1 [] [] := fun fd T us ws its h1 h2 h3 => match us, h1, ws, h2, its, h3 with | [u0], _, [], _, [], _ => ⟨_, rfl, rfl⟩
theorem pat21 : PatS F__law_pairs 1 [] [] := fun fd T us ws its h1 h2 h3 => match us, h1, ws, h2, its, h3 with | [u0], _, [], _, [], _ => ⟨_, rfl, rfl⟩
theorem pat22 : PatS F__law_shows 2 [] [] := fun fd T us ws its h1 h2 h3 => match us, h1, ws, h2, its, h3 with | [u0, u1], _, [], _, [], _ => ⟨_, rfl, rfl⟩
theorem pat23 : PatS F__law_right 1 [] [] := fun fd T us ws its h1 h2 h3 => match us, h1, ws, h2, its, h3 with | [u0], _, [], _, [], _ => ⟨_, rfl, rfl⟩
theorem pats : AllL (PatT prg) G.pat := ⟨fun fn hf => (by cases (show some F_is_name = some fn from hf); exact pat0), fun fn hf => (by cases (show some F_wrong_island = some fn from hf); exact pat1), fun fn hf => (by cases (show some F_pairs_of = some fn from hf); exact pat2), fun fn hf => (by cases (show some F_Sea___init__ = some fn from hf); exact pat3), fun fn hf => (by cases (show some F_Sea___init__ = some fn from hf); exact pat4), fun fn hf => (by cases (show some F_Sea_islands = some fn from hf); exact pat5), fun fn hf => (by cases (show some F_Sea_pairs = some fn from hf); exact pat6), fun fn hf => (by cases (show some F_Sea___contains__ = some fn from hf); exact pat7), fun fn hf => (by cases (show some F_Sea___len__ = some fn from hf); exact pat8), fun fn hf => (by cases (show some F_Sea___bool__ = some fn from hf); exact pat9), fun fn hf => (by cases (show some F_Sea___eq__ = some fn from hf); exact pat10), fun fn hf => (by cases (show some F_Sea___str__ = some fn from hf); exact pat11), fun fn hf => (by cases (show some F__law_reel = some fn from hf); exact pat12), fun fn hf => (by cases (show some F__law_upto = some fn from hf); exact pat13), fun fn hf => (by cases (show some F__law_pick = some fn from hf); exact pat14), fun fn hf => (by cases (show some F__law_title = some fn from hf); exact pat15), fun fn hf => (by cases (show some F__law_titles = some fn from hf); exact pat16), fun fn hf => (by cases (show some F__law_odd = some fn from hf); exact pat17), fun fn hf => (by cases (show some F__law_sort = some fn from hf); exact pat18), fun fn hf => (by cases (show some F__law_kept = some fn from hf); exact pat19), fun fn hf => (by cases (show some F__law_told = some fn from hf); exact pat20), fun fn hf => (by cases (show some F__law_pairs = some fn from hf); exact pat21), fun fn hf => (by cases (show some F__law_shows = some fn from hf); exact pat22), fun fn hf => (by cases (show some F__law_right = some fn from hf); exact pat23), trivial⟩
theorem plaw : PatS F_law 1 [] [] := fun fd T us ws its h1 h2 h3 => match us, h1, ws, h2, its, h3 with | [u0], _, [], _, [], _ => ⟨_, rfl, rfl⟩
end Sb.Law
namespace HH
open PySem PySem.W PySem.Calls PyProof.Rows
abbrev R : OpenRow := OpenLaw.row PySem.Challenge.rw_sparebridges_k02_seas_made
def names : List PySem.Str := List.map PySem.Str.ofString ((["_wall", "WrongValue", "InvalidText", "InvalidNumber", "InvalidName", "InvalidWish", "InvalidIndex", "NotASea", "InvalidIslands", "InvalidBridges", "InvalidWishes", "InvalidEnds", "InvalidPrices", "InvalidForward", "InvalidOffers", "InvalidGrowth", "WrongName", "UnknownName", "NoAnswer", "TooWeak", "TooMany", "NothingToUndo", "Broken", "MOST_ISLANDS", "LETTERS", "DIGITS", "LONGEST_NAME", "is_name", "wrong_island", "read_sea", "pairs_of", "Sea", "_law_reel", "_law_upto", "_law_pick", "_law_title", "_law_titles", "_law_odd", "_law_sort", "_law_kept"] : List String) ++ (["_law_told", "_law_pairs", "_law_shows", "_law_right"] : List String))
def fa : List He.Fa := [.glo "law"]
def fn : List He.DefD := []
def tf : List He.Defn := [("_law_right", none)]
abbrev ct (K : PySem.W.Frag) : Sb.CT := Sb.ctL K Sb.Law.wh Sb.Law.cn Sb.Law.fl tf
def ex (K : PySem.W.Frag) : Bool := Sb.hdB K Sb.Law.G (ct K) && (Sb.bdB K Sb.Law.G (ct K) && Sb.lamB K Sb.Law.G (ct K) tf)
abbrev hk : PySem.W.Hook := He.hookX 5 fa fn [] tf ex
def ob (s : PySem.W.SharedT) : He.AlX := He.obsX 5 fa fn [] tf ex (HandSHeadRun.getT s)
theorem ob_eq (s : PySem.W.SharedT) : ob s = hk.obs s.abs := He.obsX_eq (HandSHeadRun.getT_eq s)
theorem run (w : World) : HandSHeadRun.RunEq R (PySem.W.view R.prog [48]) hk ob 60000 names w := by
  intro os
  kernel_rfl
end HH
open PySem PySem.W PySem.Calls PyProof.Rows
theorem PySem.Challenge.cw_sparebridges_k02_seas_made_holds : PySem.Challenge.rw_sparebridges_k02_seas_made.Holds := by
  w_on; o_law
  refine HandSHeadRun.head_any (r := OpenLaw.row PySem.Challenge.rw_sparebridges_k02_seas_made) (q := view (OpenLaw.row PySem.Challenge.rw_sparebridges_k02_seas_made).prog [48]) (H := HH.hk) (ob := HH.ob) (M := 60000) (loose := HH.names) (d := HandSHeadRun.topDef (OpenLaw.row PySem.Challenge.rw_sparebridges_k02_seas_made).prog 48) (kwd := []) HH.ob_eq
    (by kernel_rfl) (fun s => by kernel_rfl) HH.run (by kernel_rfl) (by kernel_rfl) (by kernel_rfl) (by rfl) (by first | assumption | decide +kernel) (by decide +kernel) ⟨rfl, rfl, rfl, rfl, rfl, by decide +kernel⟩ ?hw ?hc
  case hw => w_witness2
  case hc =>
    refine Sb.walk_G (l := PySem.Challenge.rw_sparebridges_k02_seas_made) (n := 63) (k := 5 * 9) (x := "script") rfl (by decide) (by kernel_rfl) ⟨⟨rfl, by decide, by decide⟩, rfl⟩ ?F
    intro w mg fa h Y G hmg0
    obtain ⟨K, KX, c⟩ := Y
    have hmg : mg ("law" : PySem.Str) = some (.ref fa) := by
      have e : (HandSHeadRun.topDef (OpenLaw.row PySem.Challenge.rw_sparebridges_k02_seas_made).prog 48).name = ("law" : PySem.Str) := by kernel_rfl
      rw [← e]
      exact hmg0
    have hm := c.more
    simp only [HH.ex, Bool.and_eq_true] at hm
    have hfa : fa = (HH.ct K).fa Sb.Law.i_law := by
      have e := hmg.symm.trans (He.glo_ok KX G (c.t.d.fact 0 (f := .glo "law") rfl))
      cases e
      rfl
    exact Sb.law_G (G := Sb.Law.G) (i := Sb.Law.i_law) (ct := HH.ct) rfl rfl rfl rfl rfl Sb.Law.pats Sb.Law.plaw (fun ns hl S Q E hQ => Sb.Law.s_law (by omega) hQ) KX G hm.1 hm.2.1 hfa (HH.tf.map (He.cT K)) (Sb.TabH.of c KX) (Sb.lamB_ok hm.2.2) rfl
