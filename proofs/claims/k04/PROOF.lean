import PyProof.Rows.All
import HandS.Ends
import PyProof.Rows.Digits
import HandS.ForMost
import HandS.ForExc
import HandS.Wide
import HandS.Gcd
import HandS.More
import HandS.Deep
import HandS.SetFor
import HandS.StrMore
import HandS.TupAny
import HandS.Zip
import HandS.Conv
import HandS.Rev
import PyProof.Rows.StrOr
import HandS.IsInst
import HandS.TryOnly
import HandS.Walk
import KE.GoesMore
import HandS.Flow
import HandS.HeadWalk
import HandS.MakeKwOnly
import HandS.ExcInit
import HandS.ExcField
import HandS.ExcIs
import HandS.Strs
import HandS.SetKeys
import HandS.TryMany
import HandS.Dict
import HandS.Property
import HandS.Defaults
import HandS.EndBits
import PySem.Challenge.RW_unbent_k04_texts_of_fractions
set_option Elab.async false
set_option linter.all false
set_option maxRecDepth 100000
set_option maxHeartbeats 4000000
namespace Mn
open PySem L2 PySem.Spec PyProof.Rows
section
variable {P : Program} {w : World} {K : PySem.W.Frag} {mg mb : Str → Option Value} {CX : CXT} {k : Nat} {fa a : Addr} {fd : FuncData} {x : Str} {sp : Sp} {st : Shared} {vs : List Value} {ns : List Int}
theorem law_under {H : Hp} (kx : K.In st.heap) (n1 : st.heap.Ns mainGlobals mg) (n2 : st.heap.Ns builtinsNs mb) (bb : ∀ y : Str, y ≠ "__name__" → mb y = bootBuiltins y) (nl : st.heap.NoLimit) (nd : st.heap.NoDigits) (ng : st.gens = #[])
    (oa : st.heap.get? a = some { cls := .type "list", data := .seq vs.toArray }) (rm : Room k callerA) (F : ∀ base : Heap, K.In base → base.NoDigits → FnOk P w K mg base CX k fa fd [x] sp) (bd : ∀ (s : Shared) (u : Value), BindsTo s fd ⟨[u], []⟩ [(x, u)])
    (only : Only H) (q : sp [.ref a] H (fun v _ => v = .bl true) fun _ _ _ => False) (hok : HOk P w H st.heap) (alone : ∀ b, b ≠ a → H b = none) (apart : ∀ o, K.lookup a = some o → H a = none) (cx : ∀ e s', CX [] H st (fun _ _ _ => False) e s' → False) :
    codeAny (model P w) callerA (.call (.ref fa) ⟨[.ref a], []⟩) (fun r s' => r = .ok (.ret (.bool true)) ∧ OldK st.heap s'.heap ∧ s'.os = st.os ∧ AllBare s'.gens) st := by
  have dicts : ∀ {b : Addr} {m : Str → Option Value}, st.heap.Ns b m → (hidT st.heap H).Ns b m := by
    rintro b m ⟨o, es, ep, g, d, r⟩
    refine ⟨o, es, ep, hidT_get g (alone b ?_), d, r⟩
    rintro rfl
    rw [oa] at g
    cases g
    cases d
  have kin : K.In (hidT st.heap H) := fun b o l => hidT_get (kx b o l) (by
    by_cases e : b = a
    · subst e; exact apart o l
    · exact alone b e)
  have lim : (hidT st.heap H).NoLimit := nl.imp fun _ z => ⟨dicts z.1, z.2⟩
  have dig : (hidT st.heap H).NoDigits := nd.imp fun _ z => ⟨dicts z.1, z.2⟩
  have env : Env0 P w K mg (hidT st.heap H) callerA [] st H := ⟨rfl, ⟨kin, dicts n1, ⟨mb, dicts n2, bb⟩, lim⟩, fun _ _ z => of_hidT z, Nat.le_of_eq (hidT_size _ _), trivial, fun _ z => absurd z List.not_mem_nil, hok, .of_eq ng⟩
  refine codeAny_mono ((F _ kin dig).run callerA [] st H ⟨[.ref a], []⟩ [.ref a] [.ref a] _ _ rm env (bd st (.ref a)) (.cons rfl .nil) q) fun r s' z => ?_
  match r, z with
  | .error e, z => exact (cx e s' z).elim
  | .ok .next, z => exact z.elim
  | .ok .brk, z => exact z.elim
  | .ok .cont, z => exact z.elim
  | .ok (.ret u), ⟨v, H', os, bare, un, hok', rv, ev⟩ =>
    cases (show v = V.bl true from ev)
    cases (show u = Value.bool true from rv)
    refine ⟨rfl, OldK.of_keep fun b o g => ?_, os, bare⟩
    rcases only b with n | ⟨ob, l, n⟩
    · exact un.keep b o g n (fun z => nomatch z) List.not_mem_nil
    · have g1 := (hok b _ n).1
      rw [g] at g1
      cases g1
      exact (hok' b _ (un.frzs b o _ n)).1
theorem law_callD (kx : K.In st.heap) (n1 : st.heap.Ns mainGlobals mg) (n2 : st.heap.Ns builtinsNs mb) (bb : ∀ y : Str, y ≠ "__name__" → mb y = bootBuiltins y) (nl : st.heap.NoLimit) (nd : st.heap.NoDigits) (ng : st.gens = #[])
    (oa : st.heap.get? a = some { cls := .type "list", data := .seq vs.toArray }) (hi : IntsAre vs ns) (hl : ns.length ≤ sizeLine) (rm : Room k callerA) (F : ∀ base : Heap, K.In base → base.NoDigits → FnOk P w K mg base CX k fa fd [x] sp) (bd : ∀ (s : Shared) (u : Value), BindsTo s fd ⟨[u], []⟩ [(x, u)])
    (hsp : ∀ H : Hp, Only H → SqL K H a (ns.map V.int) → sp [.ref a] H (fun v _ => v = .bl true) fun _ _ _ => False) (cx : ∀ H e s', CX [] H st (fun _ _ _ => False) e s' → False) :
    codeAny (model P w) callerA (.call (.ref fa) ⟨[.ref a], []⟩) (fun r s' => r = .ok (.ret (.bool true)) ∧ OldK st.heap s'.heap ∧ s'.os = st.os ∧ AllBare s'.gens) st := by
  by_cases own : ∃ o, K.lookup a = some o
  · obtain ⟨o, own⟩ := own
    have e := kx a o own
    rw [oa] at e
    cases e
    have none : Only fun _ => none := fun _ => .inl rfl
    exact law_under kx n1 n2 bb nl nd ng oa rm F bd none (hsp _ none (.inr ⟨_, vs.toArray, _, own, rfl, rfl, rfl, by rw [List.size_toArray, hi.length]; exact hl, by simpa using vals_ints hi⟩)) (fun _ _ z => nomatch z) (fun _ _ => rfl) (fun _ _ => rfl) (cx _)
  · have at_ : ∀ b, (if b = a then some (HO.frz { cls := .type "list", data := .seq vs.toArray } (.lst (ns.map V.int))) else none) = none ∨ b = a := fun b => by
      by_cases e : b = a
      · exact .inr e
      · exact .inl (if_neg e)
    have frz : Only fun b => if b = a then some (HO.frz { cls := .type "list", data := .seq vs.toArray } (.lst (ns.map V.int))) else none := fun b => (at_ b).imp id fun e => ⟨_, _, if_pos e⟩
    refine law_under kx n1 n2 bb nl nd ng oa rm F bd frz (hsp _ frz (.inl (.inr ⟨_, if_pos rfl⟩))) (fun b u z => ?_) (fun b e => if_neg e) (fun o l => absurd ⟨o, l⟩ own) (cx _)
    rcases at_ b with e | rfl
    · exact absurd (e.symm.trans z) (fun y => nomatch y)
    · cases (if_pos rfl).symm.trans z
      exact ⟨oa, by rw [List.length_map]; exact hl, vs, _, vals_ints hi, oa⟩
end
end Mn
namespace Mn
open PySem
inductive D where
  | non | bl (b : Bool) | int (i : Int) | str (s : Str) | tup (ds : List D) | ref (n : Nat) | rg (lo hi : Int)
  deriving Inhabited
inductive O where
  | lst (ds : List D)
  | frz (ds : List D)
  | ins (c : Nat) (fs : List (Nat × D))
  deriving Inhabited
abbrev Hh := List O
structure Xc where
  cls : Nat
  fs : List (Nat × D) := []
inductive R (α : Type) where
  | ok (a : α) (h : Hh) | exc (x : Xc) (h : Hh) | stuck
def R.bind {α β : Type} : R α → (α → Hh → R β) → R β
  | .ok a h, f => f a h
  | .exc x h, _ => .exc x h
  | .stuck, _ => .stuck
inductive F where
  | nx | bk | ct | rt (d : D)
abbrev Ev := List (Option D)
inductive RS where
  | go (f : F) (e : Ev) (h : Hh) | exc (x : Xc) (e : Ev) (h : Hh) | stuck
def R.toS {α : Type} : R α → Ev → (α → Hh → RS) → RS
  | .ok a h, _, f => f a h
  | .exc x h, e, _ => .exc x e h
  | .stuck, _, _ => .stuck
abbrev ED := Ev → Hh → R D
abbrev TD := Ev → Hh → R Bool
abbrev AD := Ev → Hh → R (List D)
abbrev SD := Ev → Hh → RS
abbrev FD := List D → Hh → R D
def lstAt (h : Hh) (n : Nat) : Option (List D) := match h[n]? with
  | some (.lst ds) => some ds
  | some (.frz ds) => some ds
  | _ => none
abbrev szl : Nat := 16777216
def allS (f : D → Option PyData) : List D → Option (List PyData)
  | [] => some []
  | d :: ds => match f d, allS f ds with
    | some x, some xs => some (x :: xs)
    | _, _ => none
def toPD (h : Hh) : Nat → D → Option PyData
  | _, .non => some .none
  | _, .bl b => some (.bool b)
  | _, .int i => some (.int i)
  | _, .str s => some (.str s)
  | _, .rg _ _ => none
  | 0, _ => none
  | k + 1, .tup ds => (allS (toPD h k) ds).map .tuple
  | k + 1, .ref n => match lstAt h n with
    | some ds => (allS (toPD h k) ds).map .list
    | none => none
abbrev cMul (i j : Int) : Prop := i.natAbs.log2 + j.natAbs.log2 < 100000000
abbrev cDiv (j : Int) : Prop := j ≠ 0 ∧ j.natAbs.log2 < 9000
abbrev cPow (i j : Int) : Prop := 0 ≤ j ∧ j ≤ 1000000 ∧ i.natAbs < 2 ^ 64
def repS (a : Str) (k : Nat) : Str := ⟨(List.replicate k a.cps).foldl (· ++ ·) #[]⟩
def bop : Operator → D → D → Hh → R D
  | .Add, .int i, .int j, h => .ok (.int (i + j)) h
  | .Sub, .int i, .int j, h => .ok (.int (i - j)) h
  | .Mult, .int i, .int j, h => if cMul i j then .ok (.int (i * j)) h else .stuck
  | .FloorDiv, .int i, .int j, h => if cDiv j then .ok (.int (i.fdiv j)) h else .stuck
  | .Mod, .int i, .int j, h => if j ≠ 0 then .ok (.int (i.fmod j)) h else .stuck
  | .Pow, .int i, .int j, h => if cPow i j then .ok (.int (i ^ j.toNat)) h else .stuck
  | .LShift, .int i, .int j, h => if cPow i j then .ok (.int (i * 2 ^ j.toNat)) h else .stuck
  | .RShift, .int i, .int j, h => if 0 ≤ j then .ok (.int (i / 2 ^ j.toNat)) h else .stuck
  | .BitAnd, .int i, .int j, h => .ok (.int (Builtin.bitAnd i j)) h
  | .BitOr, .int i, .int j, h => .ok (.int (Builtin.bitOr i j)) h
  | .Add, .str a, .str b, h => if a.length + b.length ≤ szl then .ok (.str (a ++ b)) h else .stuck
  | .Add, .tup a, .tup b, h => if a.length + b.length ≤ szl then .ok (.tup (a ++ b)) h else .stuck
  | .Add, .ref m, .ref n, h => match h[m]?, h[n]? with
    | some (.lst a), some (.lst b) => if a.length + b.length ≤ szl then .ok (.ref h.length) (h ++ [.lst (a ++ b)]) else .stuck
    | _, _ => .stuck
  | .Mult, .ref m, .int k, h => match h[m]? with
    | some (.lst a) => if -(2 ^ 63) ≤ k ∧ k < 2 ^ 63 ∧ a.length * k.toNat ≤ szl then .ok (.ref h.length) (h ++ [.lst (List.replicate k.toNat a).flatten]) else .stuck
    | _ => .stuck
  | .Mult, .str a, .int k, h => if 2 ≤ k ∧ k ≤ 10000 ∧ 1 ≤ a.length ∧ a.length ≤ 1000 then .ok (.str (repS a k.toNat)) h else .stuck
  | _, _, _, _ => .stuck
def uop : UnaryOp → D → Hh → R D
  | .USub, .int i, h => .ok (.int (-i)) h
  | _, _, _ => .stuck
def flatD : D → Bool
  | .non | .bl _ | .int _ | .str _ => true
  | _ => false
def eqF : D → D → Bool
  | .non, .non => true
  | .bl a, .bl b => a == b
  | .bl a, .int j => (if a then 1 else 0) == j
  | .int i, .bl b => i == (if b then 1 else 0)
  | .int i, .int j => i == j
  | .str a, .str b => a == b
  | _, _ => false
def eqD (h : Hh) (x y : D) : Option Bool := match x, y with
  | .int i, .int j => some (decide (i = j))
  | .str a, .str b => some (decide (a = b))
  | .bl a, .bl b => some (decide (a = b))
  | x, y => match toPD h 12 x, toPD h 12 y with
    | some a, some b => if SeqAt.shaped a = true ∧ SeqAt.shaped b = true then some (PyData.eqv a b) else none
    | _, _ => none
def inD (h : Hh) (x : D) (ys : List D) : Option Bool :=
  if flatD x = true ∧ ys.all flatD = true then some (ys.any fun y => eqF y x) else none
def inS (h : Hh) (x c : D) : Option Bool := match toPD h 12 c, toPD h 12 x with
  | some (.list ps), some p => if SeqAt.shaped p = true ∧ SeqAt.shaped (.list ps) = true then some (ps.any fun z => PyData.eqv z p) else none
  | some (.tuple ps), some p => if SeqAt.shaped p = true ∧ SeqAt.shaped (.tuple ps) = true then some (ps.any fun z => PyData.eqv z p) else none
  | _, _ => none
def inA (h : Hh) (x c : D) (ys : List D) : Option Bool := match inD h x ys with
  | some b => some b
  | none => inS h x c
def isNon : D → Bool
  | .non => true
  | _ => false
def ofB (o : Option Bool) (f : Bool → Bool) (h : Hh) : R D := match o with
  | some b => .ok (.bl (f b)) h
  | none => .stuck
def bcmp : CmpOp → D → D → Hh → R D
  | .Eq, x, y, h => ofB (eqD h x y) id h
  | .NotEq, x, y, h => ofB (eqD h x y) not h
  | .Lt, .int i, .int j, h => .ok (.bl (decide (i < j))) h
  | .LtE, .int i, .int j, h => .ok (.bl (decide (i ≤ j))) h
  | .Gt, .int i, .int j, h => .ok (.bl (decide (j < i))) h
  | .GtE, .int i, .int j, h => .ok (.bl (decide (j ≤ i))) h
  | .Is, x, .non, h => .ok (.bl (isNon x)) h
  | .IsNot, x, .non, h => .ok (.bl (!isNon x)) h
  | .In, .str a, .str b, h => .ok (.bl (!(Builtin.Str.occurrences b a 0 b.length 1).isEmpty)) h
  | .NotIn, .str a, .str b, h => .ok (.bl (!(!(Builtin.Str.occurrences b a 0 b.length 1).isEmpty))) h
  | .In, x, .ref n, h => match lstAt h n with
    | some ys => ofB (inA h x (.ref n) ys) id h
    | none => .stuck
  | .In, x, .tup ys, h => ofB (inA h x (.tup ys) ys) id h
  | .NotIn, x, .ref n, h => match lstAt h n with
    | some ys => ofB (inA h x (.ref n) ys) not h
    | none => .stuck
  | .NotIn, x, .tup ys, h => ofB (inA h x (.tup ys) ys) not h
  | .Is, .bl a, .bl b, h => .ok (.bl (a == b)) h
  | .IsNot, .bl a, .bl b, h => .ok (.bl (!(a == b))) h
  | .LtE, .str a, .str b, h => .ok (.bl (!decide (b.cps.toList < a.cps.toList))) h
  | .Lt, .str a, .str b, h => .ok (.bl (decide (a.cps.toList < b.cps.toList))) h
  | _, _, _, _ => .stuck
def truth : D → Hh → Option Bool
  | .non, _ => some false
  | .bl b, _ => some b
  | .int i, _ => some (i != 0)
  | .ref n, h => (lstAt h n).map fun ds => !ds.isEmpty
  | _, _ => none
def ixD : D → D → Hh → R D
  | .tup ds, .int i, h => match L2.atI ds i with
    | some d => .ok d h
    | none => .stuck
  | .ref n, .int i, h => match lstAt h n with
    | some ds => match L2.atI ds i with
      | some d => .ok d h
      | none => .stuck
    | none => .stuck
  | .str z, .int i, h => if z.length ≤ szl then match L2.atI z.cps.toList i with
      | some c => .ok (.str ⟨#[c]⟩) h
      | none => .stuck
    else .stuck
  | _, _, _ => .stuck
def setD : D → D → D → Hh → R Unit
  | .ref n, .int i, v, h => match h[n]? with
    | some (.lst ds) => match L2.ixN ds.length i with
      | some j => .ok () (h.set n (.lst (ds.set j v)))
      | none => .stuck
    | _ => .stuck
  | _, _, _, _ => .stuck
def dK : ED := fun _ _ => .stuck
def dC (d : D) : ED := fun _ h => .ok d h
def dV (i : Nat) : ED := fun e h => match e[i]? with
  | some (some d) => .ok d h
  | _ => .stuck
def dB (op : Operator) (a b : ED) : ED := fun e h => (a e h).bind fun x h1 => (b e h1).bind fun y h2 => bop op x y h2
def dU (op : UnaryOp) (a : ED) : ED := fun e h => (a e h).bind fun x h1 => uop op x h1
def dCmp (op : CmpOp) (a b : ED) : ED := fun e h => (a e h).bind fun x h1 => (b e h1).bind fun y h2 => bcmp op x y h2
def blOf (d : D) (h : Hh) (k : Bool → Hh → R α) : R α := match d with
  | .bl b => k b h
  | _ => .stuck
def dCh (op op' : CmpOp) (a b c : ED) : ED := fun e h => (a e h).bind fun x h1 => (b e h1).bind fun y h2 => (bcmp op x y h2).bind fun z h3 => blOf z h3 fun k h3 =>
  if k then (c e h3).bind fun w h4 => bcmp op' y w h4 else .ok (.bl false) h3
def dIf (t : TD) (a b : ED) : ED := fun e h => (t e h).bind fun k h1 => if k then a e h1 else b e h1
def dIx (a b : ED) : ED := fun e h => (a e h).bind fun x h1 => (b e h1).bind fun y h2 => ixD x y h2
def aN : AD := fun _ h => .ok [] h
def aC (a : ED) (r : AD) : AD := fun e h => (a e h).bind fun d h1 => (r e h1).bind fun ds h2 => .ok (d :: ds) h2
def dTup (a : AD) : ED := fun e h => (a e h).bind fun ds h1 => if ds.length ≤ szl then .ok (.tup ds) h1 else .stuck
def dLst (a : AD) : ED := fun e h => (a e h).bind fun ds h1 => if ds.length ≤ szl then .ok (.ref h1.length) (h1 ++ [.lst ds]) else .stuck
def dCall (f : FD) (a : AD) (dv : List D) : ED := fun e h => (a e h).bind fun ds h1 => f (ds ++ dv) h1
def tK : TD := fun _ _ => .stuck
def tE (a : ED) : TD := fun e h => (a e h).bind fun x h1 => match truth x h1 with
  | some b => .ok b h1
  | none => .stuck
def tB (a : ED) : TD := fun e h => (a e h).bind fun x h1 => blOf x h1 fun k h1 => .ok k h1
def tNot (t : TD) : TD := fun e h => (t e h).bind fun k h1 => .ok (!k) h1
def tAnd (t u : TD) : TD := fun e h => (t e h).bind fun k h1 => if k then u e h1 else .ok false h1
def tOr (t u : TD) : TD := fun e h => (t e h).bind fun k h1 => if k then .ok true h1 else u e h1
def tY : TD := fun _ h => .ok true h
structure Sq where
  items : List D
  src : List (Nat × List D)
abbrev ID := Ev → Hh → R Sq
def srcOk (src : List (Nat × List D)) (h : Hh) : Prop := ∀ p ∈ src, lstAt h p.1 = some p.2
def rngD (lo : Int) (n : Nat) : List D := (List.range n).map fun (i : Nat) => .int (lo + (i : Int))
def rng (lo hi : Int) (h : Hh) : R Sq := if -(2 ^ 62) ≤ lo ∧ lo < 2 ^ 62 ∧ -(2 ^ 62) ≤ hi ∧ hi < 2 ^ 62 then .ok ⟨rngD lo (hi - lo).toNat, []⟩ h else .stuck
def iSeq (a : ED) : ID := fun e h => (a e h).bind fun x h1 => match x with
  | .tup ds => .ok ⟨ds, []⟩ h1
  | .str z => .ok ⟨z.cps.toList.map fun c => .str ⟨#[c]⟩, []⟩ h1
  | .ref n => match lstAt h1 n with
    | some ds => .ok ⟨ds, [(n, ds)]⟩ h1
    | none => .stuck
  | .rg lo hi => rng lo hi h1
  | _ => .stuck
def iRange1 (a : ED) : ID := fun e h => (a e h).bind fun x h1 => match x with
  | .int hi => rng 0 hi h1
  | _ => .stuck
def iRange2 (a b : ED) : ID := fun e h => (a e h).bind fun x h1 => (b e h1).bind fun y h2 => match x, y with
  | .int lo, .int hi => rng lo hi h2
  | _, _ => .stuck
def iEnum (a : ED) : ID := fun e h => (a e h).bind fun x h1 => match x with
  | .tup ds => .ok ⟨ds.zipIdx.map fun p => .tup [.int (p.2 : Nat), p.1], []⟩ h1
  | .ref n => match lstAt h1 n with
    | some ds => .ok ⟨ds.zipIdx.map fun p => .tup [.int (p.2 : Nat), p.1], [(n, ds)]⟩ h1
    | none => .stuck
  | _ => .stuck
def iZip (a b : ED) : ID := fun e h => (a e h).bind fun x h1 => (b e h1).bind fun y h2 => match x, y with
  | .tup ds, .tup es => .ok ⟨List.zipWith (fun x y => .tup [x, y]) ds es, []⟩ h2
  | .ref m, .ref n => match lstAt h2 m, lstAt h2 n with
    | some ds, some es => .ok ⟨List.zipWith (fun x y => .tup [x, y]) ds es, [(m, ds), (n, es)]⟩ h2
    | _, _ => .stuck
  | _, _ => .stuck
def iRev (a : ED) : ID := fun e h => (a e h).bind fun x h1 => match x with
  | .ref n => match lstAt h1 n with
    | some ds => .ok ⟨ds.reverse, [(n, ds)]⟩ h1
    | none => .stuck
  | _ => .stuck
abbrev Tg := D → Ev → Option Ev
def gN (i : Nat) : Tg := fun d e => some (e.set i (some d))
def gT (is : List Nat) : Tg := fun d e => match d with
  | .tup ds => if ds.length = is.length then some ((is.zip ds).foldl (fun e p => e.set p.1 (some p.2)) e) else none
  | _ => none
def wipe (e : Ev) : List Nat → Ev
  | [] => e
  | v :: vs => (wipe e vs).set v none
open Classical in
noncomputable def lcGo (src : List (Nat × List D)) (tg : Tg) (t : TD) (el : ED) (e : Ev) (p : Nat) : List D → Hh → R D
  | [], h => if srcOk src h then .ok (.ref p) h else .stuck
  | d :: r, h => if srcOk src h then match tg d e with
      | some e1 => match t e1 h with
        | .ok false h1 => lcGo src tg t el e p r h1
        | .ok true h1 => match el e1 h1 with
          | .ok y h2 => match h2[p]? with
            | some (.lst acc) => if acc.length < szl then lcGo src tg t el e p r (h2.set p (.lst (acc ++ [y]))) else .stuck
            | _ => .stuck
          | _ => .stuck
        | _ => .stuck
      | none => .stuck
    else .stuck
noncomputable def dLc (it : ID) (tg : Tg) (t : TD) (el : ED) (own : List Nat) : ED := fun e h => (it e h).bind fun sq h1 => lcGo sq.src tg t el (wipe e own) h1.length sq.items (h1 ++ [.lst []])
abbrev GD := D → Ev → Hh → R Ev
def sK : SD := fun _ _ => .stuck
def sNx : SD := fun e h => .go .nx e h
def sBk : SD := fun e h => .go .bk e h
def sCt : SD := fun e h => .go .ct e h
def sEx (a : ED) : SD := fun e h => (a e h).toS e fun _ h1 => .go .nx e h1
def sRt (a : ED) : SD := fun e h => (a e h).toS e fun d h1 => .go (.rt d) e h1
def sSq (s t : SD) : SD := fun e h => match s e h with
  | .go .nx e1 h1 => t e1 h1
  | r => r
def sIf (t : TD) (a b : SD) : SD := fun e h => (t e h).toS e fun k h1 => if k then a e h1 else b e h1
def ofG (g : Tg) : GD := fun d e h => match g d e with
  | some e1 => .ok e1 h
  | none => .stuck
def gIx (o i : ED) : GD := fun d e h => (o e h).bind fun x h1 => (i e h1).bind fun y h2 => (setD x y d h2).bind fun _ h3 => .ok e h3
def sAs (a : ED) (g : GD) : SD := fun e h => (a e h).toS e fun d h1 => (g d e h1).toS e fun e1 h2 => .go .nx e1 h2
open Classical in
noncomputable def forGo (src : List (Nat × List D)) (tg : Tg) (b : SD) : List D → Ev → Hh → RS
  | [], e, h => if srcOk src h then .go .nx e h else .stuck
  | d :: r, e, h => if srcOk src h then match tg d e with
      | some e1 => match b e1 h with
        | .go .nx e2 h2 => forGo src tg b r e2 h2
        | .go .ct e2 h2 => forGo src tg b r e2 h2
        | .go .bk e2 h2 => .go .nx e2 h2
        | r => r
      | none => .stuck
    else .stuck
noncomputable def sFor (it : ID) (tg : Tg) (b : SD) : SD := fun e h => (it e h).toS e fun sq h1 => forGo sq.src tg b sq.items e h1
def whGo (t : TD) (b : SD) : Nat → SD
  | 0, _, _ => .stuck
  | n + 1, e, h => (t e h).toS e fun k h1 => if k then match b e h1 with
      | .go .nx e2 h2 => whGo t b n e2 h2
      | .go .ct e2 h2 => whGo t b n e2 h2
      | .go .bk e2 h2 => .go .nx e2 h2
      | r => r
    else .go .nx e h1
def sRaise (c : Nat) : SD := fun e h => .exc ⟨c, []⟩ e h
structure Hd where
  cls : Nat
  slot : Option Nat
  suite : Xc → SD
def clr (e : Ev) : Option Nat → Ev
  | some i => e.set i none
  | none => e
def slotOk (e : Ev) : Option Nat → Bool
  | some i => decide (i < e.length)
  | none => true
def sTry (sub : Nat → Nat → Option Bool) (b : SD) (hd : Hd) : SD := fun e h => match b e h with
  | .exc x e1 h1 => match sub x.cls hd.cls with
    | some true => if slotOk e1 hd.slot = true then match hd.suite x (clr e1 hd.slot) h1 with
        | .go f e2 h2 => .go f (clr e2 hd.slot) h2
        | _ => .stuck
      else .stuck
    | some false => .exc x e1 h1
    | none => .stuck
  | r => r
def fnRun (b : SD) (n : Nat) : FD := fun ds h => match b (ds.map some ++ List.replicate (n - ds.length) none) h with
  | .go .nx _ h1 => .ok .non h1
  | .go (.rt d) _ h1 => .ok d h1
  | .exc x _ h1 => .exc x h1
  | _ => .stuck
def fLen : FD := fun ds h => match ds with
  | [.tup xs] => .ok (.int xs.length) h
  | [.ref n] => match lstAt h n with
    | some xs => .ok (.int xs.length) h
    | none => .stuck
  | [.str z] => if z.length ≤ szl then .ok (.int z.length) h else .stuck
  | _ => .stuck
def fAbs : FD := fun ds h => match ds with
  | [.int i] => .ok (.int (if i < 0 then -i else i)) h
  | _ => .stuck
def fInt : FD := fun ds h => match ds with
  | [.str a] => match PySem.intText? a with
    | some n => if a.length ≤ 640 then .ok (.int n) h else .stuck
    | none => .stuck
  | [.int i] => .ok (.int i) h
  | [.bl b] => .ok (.int (if b then 1 else 0)) h
  | _ => .stuck
def fStr : FD := fun ds h => match ds with
  | [.int i] => if i.natAbs.log2 < 1920 then .ok (.str (toString i)) h else .stuck
  | _ => .stuck
def fStrL : FD := fun ds h => match ds with
  | [.int i] => if i.natAbs < 10 ^ 4300 then .ok (.str (toString i)) h else .stuck
  | _ => .stuck
def fGcd : FD := fun ds h => match ds with
  | [.int a, .int b] => .ok (.int ((Nat.gcd a.natAbs b.natAbs : Nat) : Int)) h
  | _ => .stuck
def fList : FD := fun ds h => match ds with
  | [.ref n] => match lstAt h n with
    | some xs => .ok (.ref h.length) (h ++ [.lst xs])
    | none => .stuck
  | [.tup xs] => .ok (.ref h.length) (h ++ [.lst xs])
  | _ => .stuck
def fRng1 : FD := fun ds h => match ds with
  | [.int hi] => .ok (.rg 0 hi) h
  | _ => .stuck
def fTuple : FD := fun ds h => match ds with
  | [.ref n] => match lstAt h n with
    | some xs => .ok (.tup xs) h
    | none => .stuck
  | [.tup xs] => .ok (.tup xs) h
  | _ => .stuck
def intsOf : List D → Option (List Int)
  | [] => some []
  | .int i :: r => (intsOf r).map (i :: ·)
  | _ => none
def blsOf : List D → Option (List Bool)
  | [] => some []
  | .bl i :: r => (blsOf r).map (i :: ·)
  | _ => none
def fSum : FD := fun ds h => match ds with
  | [.ref n] => match (lstAt h n).bind intsOf with
    | some xs => .ok (.int xs.sum) h
    | none => .stuck
  | _ => .stuck
def fAll : FD := fun ds h => match ds with
  | [.ref n] => match (lstAt h n).bind blsOf with
    | some xs => .ok (.bl (xs.all id)) h
    | none => .stuck
  | _ => .stuck
def fAny : FD := fun ds h => match ds with
  | [.ref n] => match (lstAt h n).bind blsOf with
    | some xs => .ok (.bl (xs.any id)) h
    | none => .stuck
  | _ => .stuck
def fMax : FD := fun ds h => match ds with
  | [.int i, .int j] => .ok (.int (if j > i then j else i)) h
  | _ => .stuck
def fMin : FD := fun ds h => match ds with
  | [.int i, .int j] => .ok (.int (if j < i then j else i)) h
  | _ => .stuck
inductive Ty where
  | int | bool | str | tuple | list
def isTy (t : Ty) (d : D) (h : Hh) : Option Bool := match d with
  | .non => some false
  | .bl _ => some (match t with | .int => true | .bool => true | _ => false)
  | .int _ => some (match t with | .int => true | _ => false)
  | .str _ => some (match t with | .str => true | _ => false)
  | .tup _ => some (match t with | .tuple => true | _ => false)
  | .ref n => (lstAt h n).map fun _ => (match t with | .list => true | _ => false)
  | .rg _ _ => none
def dIs (t : Ty) (a : ED) : ED := fun e h => (a e h).bind fun x h1 => ofB (isTy t x h1) id h1
def mAppend (x : D) (ds : List D) (h : Hh) : R D := match x, ds with
  | .ref n, [d] => match h[n]? with
    | some (.lst xs) => if xs.length < szl then .ok .non (h.set n (.lst (xs ++ [d]))) else .stuck
    | _ => .stuck
  | _, _ => .stuck
def mPop (x : D) (ds : List D) (h : Hh) : R D := match x, ds with
  | .ref n, [] => match h[n]? with
    | some (.lst xs) => match xs[xs.length - 1]? with
      | some y => .ok y (h.set n (.lst xs.dropLast))
      | none => .stuck
    | _ => .stuck
  | _, _ => .stuck
def chkL (x : D) (h : Hh) : Bool := match x with
  | .ref n => (lstAt h n).isSome
  | _ => false
def chkS (x : D) (_ : Hh) : Bool := match x with
  | .str _ => true
  | _ => false
def dM (c : D → Hh → Bool) (f : D → List D → Hh → R D) (a : ED) (as : AD) : ED := fun e h => (a e h).bind fun x h1 => if c x h1 = true then (as e h1).bind fun ds h2 => f x ds h2 else .stuck
def cutD (ds : List D) (lo hi : Option Int) : List D := (ds.drop (HT.sIx ds.length 0 lo)).take (HT.sIx ds.length ds.length hi - HT.sIx ds.length 0 lo)
def slD (x : D) (lo hi : Option Int) (h : Hh) : R D := match x with
  | .ref n => match lstAt h n with
    | some ds => .ok (.ref h.length) (h ++ [.lst (cutD ds lo hi)])
    | none => .stuck
  | .tup ds => .ok (.tup (cutD ds lo hi)) h
  | .str z => if z.length ≤ szl then .ok (.str (L2.cutS z lo hi)) h else .stuck
  | _ => .stuck
abbrev OD := Ev → Hh → R (Option Int)
def oN : OD := fun _ h => .ok none h
def oS (a : ED) : OD := fun e h => (a e h).bind fun x h1 => match x with
  | .int i => .ok (some i) h1
  | _ => .stuck
def dSl (a : ED) (lo hi : OD) : ED := fun e h => (a e h).bind fun x h1 => (lo e h1).bind fun l h2 => (hi e h2).bind fun u h3 => slD x l u h3
def mRev (x : D) (ds : List D) (h : Hh) : R D := match x, ds with
  | .ref n, [] => match h[n]? with
    | some (.lst xs) => .ok .non (h.set n (.lst xs.reverse))
    | _ => .stuck
  | _, _ => .stuck
def mPopAt (x : D) (ds : List D) (h : Hh) : R D := match x, ds with
  | .ref n, [.int i] => match h[n]? with
    | some (.lst xs) => if -(2 ^ 63) ≤ i ∧ i < 2 ^ 63 then match L2.ixN xs.length i with
      | some j => match xs[j]? with
        | some y => .ok y (h.set n (.lst (xs.eraseIdx j)))
        | none => .stuck
      | none => .stuck
      else .stuck
    | _ => .stuck
  | _, _ => .stuck
def mInsert (x : D) (ds : List D) (h : Hh) : R D := match x, ds with
  | .ref n, [.int i, d] => match h[n]? with
    | some (.lst xs) => if xs.length < szl ∧ 0 ≤ i ∧ i < 2 ^ 63 then .ok .non (h.set n (.lst (xs.take i.toNat ++ [d] ++ xs.drop i.toNat))) else .stuck
    | _ => .stuck
  | _, _ => .stuck
def mExtend (x : D) (ds : List D) (h : Hh) : R D := match x, ds with
  | .ref n, [.ref m] => match h[n]?, h[m]? with
    | some (.lst xs), some (.lst ys) => if xs.length + ys.length ≤ szl then .ok .non (h.set n (.lst (xs ++ ys))) else .stuck
    | _, _ => .stuck
  | _, _ => .stuck
def ixF (f : D → Bool) : List D → Option Nat
  | [] => none
  | d :: ds => if f d = true then some 0 else (ixF f ds).map (· + 1)
def ixP (f : PyData → Bool) : List PyData → Option Nat
  | [] => none
  | d :: ds => if f d = true then some 0 else (ixP f ds).map (· + 1)
def mIndex (x : D) (ds : List D) (h : Hh) : R D := match x, ds with
  | .ref n, [y] => match lstAt h n with
    | some xs => if flatD y = true ∧ xs.all flatD = true then match ixF (fun z => eqF z y) xs with
        | some j => .ok (.int (j : Nat)) h
        | none => .stuck
      else match toPD h 12 (.ref n), toPD h 12 y with
        | some (.list ps), some p => if SeqAt.shaped (.list ps) = true ∧ SeqAt.shaped p = true then match ixP (fun z => PyData.eqv z p) ps with
            | some j => .ok (.int (j : Nat)) h
            | none => .stuck
          else .stuck
        | _, _ => .stuck
    | none => .stuck
  | _, _ => .stuck
def mRemove (x : D) (ds : List D) (h : Hh) : R D := match x, ds with
  | .ref n, [.int k] => match h[n]? with
    | some (.lst xs) => match intsOf xs with
      | some is => match is.findIdx? (· == k) with
        | some j => .ok .non (h.set n (.lst ((is.eraseIdx j).map .int)))
        | none => .stuck
      | none => .stuck
    | _ => .stuck
  | _, _ => .stuck
def strsOf : List D → Option (List Str)
  | [] => some []
  | .str i :: r => (strsOf r).map (i :: ·)
  | _ => none
def mSplit (x : D) (ds : List D) (h : Hh) : R D := match x, ds with
  | .str a, [.str b] => if (b.length == 0) = false ∧ a.length + 2 ≤ szl then .ok (.ref h.length) (h ++ [.lst ((Txt.split a b).map .str)]) else .stuck
  | _, _ => .stuck
def mJoin (x : D) (ds : List D) (h : Hh) : R D := match x, ds with
  | .str a, [.ref n] => match (lstAt h n).bind strsOf with
    | some ys => if (ys.map (·.length)).sum + ys.length * a.length ≤ 16777216 then .ok (.str (Txt.join a ys)) h else .stuck
    | none => .stuck
  | _, _ => .stuck
def mRfind (x : D) (ds : List D) (h : Hh) : R D := match x, ds with
  | .str a, [.str b] => .ok (.int (Txt.rfind a b)) h
  | _, _ => .stuck
def mPart (x : D) (ds : List D) (h : Hh) : R D := match x, ds with
  | .str a, [.str b] => if (b.length == 0) = false ∧ a.length ≤ szl then .ok (.tup [.str (Txt.partition a b).1, .str (Txt.partition a b).2.1, .str (Txt.partition a b).2.2]) h else .stuck
  | _, _ => .stuck
def fLRev : FD := fun ds h => match ds with
  | [.ref n] => match lstAt h n with
    | some xs => .ok (.ref h.length) (h ++ [.lst xs.reverse])
    | none => .stuck
  | _ => .stuck
def fLRng : FD := fun ds h => match ds with
  | [.int n] => if -(2 ^ 62) ≤ n ∧ n < szl then .ok (.ref h.length) (h ++ [.lst (rngD 0 n.toNat)]) else .stuck
  | [.int lo, .int n] => if -(2 ^ 62) ≤ lo ∧ lo < 2 ^ 62 ∧ -(2 ^ 62) ≤ n ∧ n < 2 ^ 62 ∧ (n - lo).toNat ≤ szl then .ok (.ref h.length) (h ++ [.lst (rngD lo (n - lo).toNat)]) else .stuck
  | _ => .stuck
def fSorted : FD := fun ds h => match ds with
  | [.ref n] => match (lstAt h n).bind intsOf with
    | some is => if is.length < 64 then .ok (.ref h.length) (h ++ [.lst ((is.mergeSort (fun a b => decide (a ≤ b))).map .int)]) else .stuck
    | none => .stuck
  | _ => .stuck
def sPar (i j : Nat) (a b : ED) : SD := fun e h => (a e h).toS e fun v h1 => (b e h1).toS e fun w h2 => .go .nx ((e.set i (some v)).set j (some w)) h2
def getL (x y : D) (h : Hh) : R D := match x, y with
  | .ref n, .int i => match lstAt h n with
    | some ds => if 0 ≤ i ∧ i < 2 ^ 63 then match ds[i.toNat]? with
      | some d => .ok d h
      | none => .stuck
      else .stuck
    | none => .stuck
  | _, _ => .stuck
def sAugI (io : D → D → Hh → R D) (x i a : ED) : SD := fun e h => (x e h).toS e fun o h1 => (i e h1).toS e fun k h2 => (getL o k h2).toS e fun v h3 => (a e h3).toS e fun w h4 => (io v w h4).toS e fun z h5 => (setD o k z h5).toS e fun _ h6 => .go .nx e h6
def noX {α : Type} : R α → R α
  | .exc _ _ => .stuck
  | r => r
open Classical in
noncomputable def lc2Go (src : List (Nat × List D)) (tg : Tg) (t : TD) (it1 : ID) (tg1 : Tg) (t1 : TD) (el : ED) (e : Ev) (vs1 : List Nat) (p : Nat) : List D → Hh → R D
  | [], h => if srcOk src h then .ok (.ref p) h else .stuck
  | d :: r, h => if srcOk src h then match tg d e with
      | some e1 => match t e1 h with
        | .ok false h1 => lc2Go src tg t it1 tg1 t1 el e vs1 p r h1
        | .ok true h1 => (noX (it1 e1 h1)).bind fun sq h2 => (lcGo sq.src tg1 t1 el (wipe e1 vs1) p sq.items h2).bind fun _ h3 => lc2Go src tg t it1 tg1 t1 el e vs1 p r h3
        | _ => .stuck
      | none => .stuck
    else .stuck
noncomputable def dLc2 (it : ID) (tg : Tg) (t : TD) (it1 : ID) (tg1 : Tg) (t1 : TD) (el : ED) (own vs1 : List Nat) : ED := fun e h => (it e h).bind fun sq h1 => lc2Go sq.src tg t it1 tg1 t1 el (wipe e own) vs1 h1.length sq.items (h1 ++ [.lst []])
def fnames : List Str := (["_answers", "_delivered", "_fuse", "_games", "_letters", "_lines", "_machines", "_notes", "_power", "_rounds", "_rules", "_text", "accepted", "agents", 
  "aim", "answered", "attempt", "ballot", "basis", "best", "bidders", "book_body", "boot", "closing", "columns", "commit", "commits", "contents", "cuts", 
  "decided", "desk", "endless", "first_helper", "free", "gains", "game", "goal", "handed", "header", "held", "high", "honest", "item", "journal", "kept", 
  "key", "known_keys", "leaves", "limit", "line", "lines", "list_body", "lots", "low", "machine", "member", "needs", "nodes", "notary", "noted", 
  "number", "opens", "outcomes", "parties", "payments", "place", "price", "profile", "promised", "reason", "report", "round_number", "rows", "rule", 
  "rule_name", "sent", "shares", "signed", "terms_number", "text", "told", "tree", "turns", "value", "variables", "whole"] : List String).map Str.ofString
def fnm (i : Nat) : Str := fnames.getD i ""
def putA {α : Type} (f : Nat) (v : α) : List (Nat × α) → List (Nat × α)
  | [] => [(f, v)]
  | (g, x) :: r => if g = f then (g, v) :: r else (g, x) :: putA f v r
def insAt (h : Hh) : D → Option (Nat × List (Nat × D))
  | .ref n => match h[n]? with
    | some (.ins c fs) => some (c, fs)
    | _ => none
  | _ => none
def fldD (f : Nat) (x : D) (h : Hh) : R D := match insAt h x with
  | some (_, fs) => match fs.lookup f with
    | some d => .ok d h
    | none => .stuck
  | none => .stuck
def dFld (f : Nat) (a : ED) : ED := fun e h => (a e h).bind fun x h1 => fldD f x h1
def putD (na : Nat → List Nat) (f : Nat) (x v : D) (h : Hh) : R Unit := match x with
  | .ref n => match h[n]? with
    | some (.ins c fs) => if (na c).elem f = true ∧ fs.length < 900 then .ok () (h.set n (.ins c (putA f v fs))) else .stuck
    | _ => .stuck
  | _ => .stuck
def sFl (na : Nat → List Nat) (f : Nat) (o a : ED) : SD := fun e h => (a e h).toS e fun v h1 => (o e h1).toS e fun x h2 => (putD na f x v h2).toS e fun _ h3 => .go .nx e h3
def sAugF (na : Nat → List Nat) (f : Nat) (io : D → D → Hh → R D) (o a : ED) : SD := fun e h => (o e h).toS e fun x h1 => (fldD f x h1).toS e fun v h2 => (a e h2).toS e fun w h3 => (io v w h3).toS e fun z h4 => if (insAt h4 x).map (·.1) = (insAt h2 x).map (·.1) then (putD na f x z h4).toS e fun _ h5 => .go .nx e h5 else .stuck
def dMe (ms : List (Nat × FD)) (o : ED) (as : AD) : ED := fun e h => (o e h).bind fun x h1 => match insAt h1 x with
  | some (c, _) => match ms.lookup c with
    | some f => (as e h1).bind fun ds h2 => f (x :: ds) h2
    | none => .stuck
  | none => .stuck
def mkD (c : Nat) (f : FD) (ds : List D) (h : Hh) : R D := (f (.ref h.length :: ds) (h ++ [.ins c []])).bind fun r h2 => match r with
  | .non => .ok (.ref h.length) h2
  | _ => .stuck
def dMk (c : Nat) (f : FD) (as : AD) (dv : List D) : ED := fun e h => (as e h).bind fun ds h1 => mkD c f (ds ++ dv) h1
inductive KP where
  | p (i : Nat) | k (i : Nat) | c (i : Nat)
def KP.gt {α : Type} (us mv ws : List α) : KP → Option α
  | .p i => us[i]?
  | .k i => ws[i]?
  | .c i => mv[i]?
def gKP (kp : List KP) {α : Type} (us mv ws : List α) : List α := kp.filterMap (KP.gt us mv ws)
def dMkK (c : Nat) (f : FD) (kp : List KP) (cs : List D) (as ks : AD) : ED := fun e h => (as e h).bind fun ds h1 => (ks e h1).bind fun zs h2 => (f (gKP kp (.ref h2.length :: ds) cs zs) (h2 ++ [.ins c []])).bind fun r h3 => match r with
  | .non => .ok (.ref h2.length) h3
  | _ => .stuck
def sRaiseA (c : Nat) (fs : List Nat) (as : AD) : SD := fun e h => (as e h).toS e fun ds h1 => if ds.length = fs.length then .exc ⟨c, (fs.zip ds).reverse⟩ e h1 else .stuck
def insL : List (Nat × List Nat) := [(40, [12, 15, 17, 42, 65]), (41, [20, 66, 81]), (42, [21, 26, 35, 45, 51, 58, 61, 71, 78]), (43, [13, 14, 52, 56, 62, 64]), (44, [13, 38, 56, 62]), (45, [0, 3, 5, 7, 9, 10]), (46, [2, 8, 11]), (47, [12, 16, 22, 29, 37, 39, 43, 59, 60, 68]), (48, [1, 4, 6]), (49, [30, 41, 46, 58, 63, 71, 75]), (50, [27, 46, 77]), (51, [21, 25, 35, 44, 45, 51, 55, 58, 70, 71, 73, 78]), (52, [33, 36, 72, 84]), (53, [23, 74, 80]), (54, [19, 31, 47, 57, 83, 85]), (55, [18, 24, 32, 34, 50, 82]), (56, [28, 40, 53, 76])]
def naT (c : Nat) : List Nat := (insL.lookup c).getD []
end Mn
namespace Mn
open PySem L2
abbrev Xs := Option (Nat × Addr × Xc × Option Addr)
structure Fx where
  K : PySem.W.Frag
  cv : Nat → Value
  fn : Nat → Str
  /-- the slot of the exception that is being handled, its address, its dict -/
  ex : Xs
mutual
inductive RD (K : PySem.W.Frag) (m : Nat → Addr) (N : Nat) (H : Hp) : D → V → Prop
  | non : RD K m N H .non .non
  | bl (b : Bool) : RD K m N H (.bl b) (.bl b)
  | int (i : Int) : RD K m N H (.int i) (.int i)
  | str (s : Str) : RD K m N H (.str s) (.str s)
  | tup {a : Addr} {ds : List D} {vs : List V} : SqT K H a vs → RDs K m N H ds vs → RD K m N H (.tup ds) (.ref a)
  | ref {n : Nat} : n < N → RD K m N H (.ref n) (.ref (m n))
  | rg {a : Addr} {lo hi : Int} : H a = some (.rng lo hi) → RD K m N H (.rg lo hi) (.ref a)
inductive RDs (K : PySem.W.Frag) (m : Nat → Addr) (N : Nat) (H : Hp) : List D → List V → Prop
  | nil : RDs K m N H [] []
  | cons {d : D} {v : V} {ds : List D} {vs : List V} : RD K m N H d v → RDs K m N H ds vs → RDs K m N H (d :: ds) (v :: vs)
end
structure TK (H H' : Hp) : Prop where
  tup : ∀ a xs, H a = some (.tup xs) → H' a = some (.tup xs)
  flst : ∀ a o xs, H a = some (.frz o (.lst xs)) → H' a = some (.frz o (.lst xs))
  ftup : ∀ a o xs, H a = some (.frz o (.tup xs)) → H' a = some (.frz o (.tup xs))
  xd : ∀ a fs, H a = some (.xd fs) → H' a = some (.xd fs)
  rg : ∀ a lo hi, H a = some (.rng lo hi) → H' a = some (.rng lo hi)
theorem TK.refl (H : Hp) : TK H H := ⟨fun _ _ h => h, fun _ _ _ h => h, fun _ _ _ h => h, fun _ _ h => h, fun _ _ _ h => h⟩
theorem TK.trans {H H1 H2 : Hp} (a : TK H H1) (b : TK H1 H2) : TK H H2 := ⟨fun _ _ h => b.tup _ _ (a.tup _ _ h), fun _ _ _ h => b.flst _ _ _ (a.flst _ _ _ h), fun _ _ _ h => b.ftup _ _ _ (a.ftup _ _ _ h), fun _ _ h => b.xd _ _ (a.xd _ _ h), fun _ _ _ h => b.rg _ _ _ (a.rg _ _ _ h)⟩
theorem TK.seq {K : PySem.W.Frag} {H H' : Hp} (t : TK H H') {a : Addr} {xs : List V} (h : SqT K H a xs) : SqT K H' a xs := by
  rcases h with (h | ⟨o, h⟩) | h
  · exact .inl (.inl (t.tup _ _ h))
  · exact .inl (.inr ⟨o, t.ftup _ _ _ h⟩)
  · exact .inr h
theorem TK.upd {H : Hp} {p : Addr} {o : HO} (h : H p = none) : TK H (upd H p o) :=
  ⟨fun a xs e => by rw [upd_ne (ne_of_none e h)]; exact e, fun a _ xs e => by rw [upd_ne (ne_of_none e h)]; exact e, fun a _ xs e => by rw [upd_ne (ne_of_none e h)]; exact e, fun a xs e => by rw [upd_ne (ne_of_none e h)]; exact e, fun a _ _ e => by rw [upd_ne (ne_of_none e h)]; exact e⟩
theorem TK.set {H : Hp} {p : Addr} {o u : HO} (h : H p = some u) (n1 : ∀ xs, u ≠ .tup xs) (n2 : ∀ o xs, u ≠ .frz o xs) (n3 : ∀ xs, u ≠ .xd xs) (n4 : ∀ lo hi, u ≠ .rng lo hi) : TK H (L2.upd H p o) :=
  ⟨fun a xs e => by rw [upd_ne (ne_of e h fun z => n1 xs z.symm)]; exact e, fun a o xs e => by rw [upd_ne (ne_of e h fun z => n2 o _ z.symm)]; exact e, fun a o xs e => by rw [upd_ne (ne_of e h fun z => n2 o _ z.symm)]; exact e, fun a xs e => by rw [upd_ne (ne_of e h fun z => n3 xs z.symm)]; exact e, fun a lo hi e => by rw [upd_ne (ne_of e h fun z => n4 lo hi z.symm)]; exact e⟩
section
variable {K : PySem.W.Frag} {m m' : Nat → Addr} {N N' : Nat} {H H' : Hp}
mutual
theorem RD.mono (t : TK H H') (e : ∀ n, n < N → m' n = m n) (hN : N ≤ N') : ∀ {d : D} {v : V}, RD K m N H d v → RD K m' N' H' d v
  | _, _, .non => .non
  | _, _, .bl b => .bl b
  | _, _, .int i => .int i
  | _, _, .str s => .str s
  | _, _, .tup h r => .tup (t.seq h) (RDs.mono t e hN r)
  | _, _, .ref h => by rw [← e _ h]; exact .ref (Nat.lt_of_lt_of_le h hN)
  | _, _, .rg h => .rg (t.rg _ _ _ h)
theorem RDs.mono (t : TK H H') (e : ∀ n, n < N → m' n = m n) (hN : N ≤ N') : ∀ {ds : List D} {vs : List V}, RDs K m N H ds vs → RDs K m' N' H' ds vs
  | _, _, .nil => .nil
  | _, _, .cons r rs => .cons (RD.mono t e hN r) (RDs.mono t e hN rs)
end
theorem RDs.length : ∀ {ds : List D} {vs : List V}, RDs K m N H ds vs → ds.length = vs.length
  | _, _, .nil => rfl
  | _, _, .cons _ r => congrArg Nat.succ (RDs.length r)
theorem RDs.get : ∀ {ds : List D} {vs : List V} {i : Nat} {d : D}, RDs K m N H ds vs → ds[i]? = some d → ∃ v, vs[i]? = some v ∧ RD K m N H d v
  | _, _, _, _, .nil, e => by simp at e
  | _, _, 0, _, .cons r _, e => by simp at e; subst e; exact ⟨_, rfl, r⟩
  | _, _, i + 1, d, .cons _ r, e => by
    obtain ⟨v, h1, h2⟩ := RDs.get (i := i) (d := d) r (by simpa using e)
    exact ⟨v, by simpa using h1, h2⟩
theorem RDs.getV : ∀ {ds : List D} {vs : List V} {i : Nat} {v : V}, RDs K m N H ds vs → vs[i]? = some v → ∃ d, ds[i]? = some d ∧ RD K m N H d v
  | _, _, _, _, .nil, e => by simp at e
  | _, _, 0, _, .cons r _, e => by simp at e; subst e; exact ⟨_, rfl, r⟩
  | _, _, i + 1, d, .cons _ r, e => by
    obtain ⟨v, h1, h2⟩ := RDs.getV (i := i) (v := d) r (by simpa using e)
    exact ⟨v, by simpa using h1, h2⟩
theorem RDs.append : ∀ {ds es : List D} {vs ws : List V}, RDs K m N H ds vs → RDs K m N H es ws → RDs K m N H (ds ++ es) (vs ++ ws)
  | _, _, _, _, .nil, s => s
  | _, _, _, _, .cons r t, s => .cons r (RDs.append t s)
theorem RDs.snoc {ds : List D} {vs : List V} {d : D} {v : V} (a : RDs K m N H ds vs) (b : RD K m N H d v) : RDs K m N H (ds ++ [d]) (vs ++ [v]) := a.append (.cons b .nil)
theorem RDs.set : ∀ {ds : List D} {vs : List V} {d : D} {v : V} (i : Nat), RD K m N H d v → RDs K m N H ds vs → RDs K m N H (ds.set i d) (vs.set i v)
  | _, _, _, _, _, _, .nil => .nil
  | _, _, _, _, 0, r, .cons _ t => .cons r t
  | _, _, _, _, i + 1, r, .cons q t => .cons q (RDs.set i r t)
theorem RDs.dropLast {ds : List D} {vs : List V} (r : RDs K m N H ds vs) : RDs K m N H ds.dropLast vs.dropLast := by
  induction r using RDs.rec (motive_1 := fun _ _ _ => True) with
  | nil => exact .nil
  | @cons d v ds vs a b _ ih =>
    cases b with
    | nil => exact .nil
    | cons a' b' => exact .cons a ih
  | _ => trivial
theorem RDs.reverse {ds : List D} {vs : List V} (r : RDs K m N H ds vs) : RDs K m N H ds.reverse vs.reverse := by
  induction r using RDs.rec (motive_1 := fun _ _ _ => True) with
  | nil => exact .nil
  | cons a b _ ih => rw [List.reverse_cons, List.reverse_cons]; exact ih.append (.cons a .nil)
  | _ => trivial
theorem RDs.take {ds : List D} {vs : List V} (n : Nat) (r : RDs K m N H ds vs) : RDs K m N H (ds.take n) (vs.take n) := by
  induction n generalizing ds vs with
  | zero => exact .nil
  | succ n ih => cases r with
    | nil => exact .nil
    | cons a b => exact .cons a (ih b)
theorem RDs.drop {ds : List D} {vs : List V} (n : Nat) (r : RDs K m N H ds vs) : RDs K m N H (ds.drop n) (vs.drop n) := by
  induction n generalizing ds vs with
  | zero => exact r
  | succ n ih => cases r with
    | nil => exact .nil
    | cons a b => exact ih b
theorem RDs.rep {ds : List D} {vs : List V} (r : RDs K m N H ds vs) : ∀ k : Nat, RDs K m N H (List.replicate k ds).flatten (List.replicate k vs).flatten
  | 0 => .nil
  | k + 1 => by rw [List.replicate_succ, List.replicate_succ, List.flatten_cons, List.flatten_cons]; exact r.append (RDs.rep r k)
end
def FzL (K : PySem.W.Frag) (H : Hp) (a : Addr) (vs : List V) : Prop := (∃ o, H a = some (.frz o (.lst vs))) ∨
  ∃ (o : Obj) (its : Array Value) (n : Nat), K.lookup a = some o ∧ o.cls = .type "list" ∧ o.dict = none ∧ o.data = .seq its n ∧ its.size ≤ sizeLine ∧ Vals vs its.toList
theorem FzL.seq {K : PySem.W.Frag} {H : Hp} {a : Addr} {vs : List V} (h : FzL K H a vs) : SqL K H a vs := by
  rcases h with ⟨o, h⟩ | h
  · exact .inl (.inr ⟨o, h⟩)
  · exact .inr h
theorem FzL.mono {K : PySem.W.Frag} {H H' : Hp} {a : Addr} {vs : List V} (t : TK H H') (h : FzL K H a vs) : FzL K H' a vs := by
  rcases h with ⟨o, h⟩ | h
  · exact .inl ⟨o, t.flst _ _ _ h⟩
  · exact .inr h
def isFz : O → Bool
  | .frz _ => true
  | _ => false
def RO (T : Fx) (m : Nat → Addr) (N : Nat) (H : Hp) (a : Addr) : O → Prop
  | .lst ds => ∃ vs, H a = some (.lst vs) ∧ RDs T.K m N H ds vs
  | .frz ds => ∃ vs, FzL T.K H a vs ∧ RDs T.K m N H ds vs
  | .ins c fs => ∃ C dx vs, T.cv c = .ref C ∧ H a = some (.ins C dx vs) ∧ Paired (fun (p : Nat × D) (q : Str × V) => q.1 = fnm p.1 ∧ RD T.K m N H p.2 q.2) fs vs ∧ Cls T.K C ∧ ∀ p ∈ fs, p.1 < fnames.length ∧ NoAttr T.K C (fnm p.1)
structure RH (T : Fx) (m : Nat → Addr) (h : Hh) (H : Hp) : Prop where
  obj : ∀ n o, h[n]? = some o → RO T m h.length H (m n) o
  inj : ∀ i j o u, h[i]? = some o → h[j]? = some u → isFz o = false → isFz u = false → m i = m j → i = j
structure Ge (m : Nat → Addr) (h : Hh) (H : Hp) (m' : Nat → Addr) (h' : Hh) (H' : Hp) : Prop where
  eq : ∀ n, n < h.length → m' n = m n
  le : h.length ≤ h'.length
  tk : TK H H'
theorem Ge.refl {m : Nat → Addr} {h : Hh} {H : Hp} : Ge m h H m h H := ⟨fun _ _ => rfl, Nat.le_refl _, TK.refl _⟩
theorem Ge.trans {m m1 m2 : Nat → Addr} {h h1 h2 : Hh} {H H1 H2 : Hp} (a : Ge m h H m1 h1 H1) (b : Ge m1 h1 H1 m2 h2 H2) : Ge m h H m2 h2 H2 :=
  ⟨fun n hn => (b.eq n (Nat.lt_of_lt_of_le hn a.le)).trans (a.eq n hn), Nat.le_trans a.le b.le, a.tk.trans b.tk⟩
theorem Ge.rd {K : PySem.W.Frag} {m m' : Nat → Addr} {h h' : Hh} {H H' : Hp} (g : Ge m h H m' h' H') {d : D} {v : V} (r : RD K m h.length H d v) : RD K m' h'.length H' d v := r.mono g.tk g.eq g.le
theorem Ge.rds {K : PySem.W.Frag} {m m' : Nat → Addr} {h h' : Hh} {H H' : Hp} (g : Ge m h H m' h' H') {d : List D} {v : List V} (r : RDs K m h.length H d v) : RDs K m' h'.length H' d v := r.mono g.tk g.eq g.le
def RXf (K : PySem.W.Frag) (m : Nat → Addr) (N : Nat) (H : Hp) (fs : List (Nat × D)) (dd : Option Addr) : Prop :=
  (fs = [] → dd = none) ∧ (fs ≠ [] → ∃ dx vs, dd = some dx ∧ H dx = some (.xd vs) ∧ Paired (fun (p : Nat × D) (q : Str × V) => q.1 = fnm p.1 ∧ RD K m N H p.2 q.2) fs vs)
theorem Ge.rxf {K : PySem.W.Frag} {m m' : Nat → Addr} {h h' : Hh} {H H' : Hp} (g : Ge m h H m' h' H') {fs : List (Nat × D)} {dd : Option Addr} (r : RXf K m h.length H fs dd) : RXf K m' h'.length H' fs dd :=
  ⟨r.1, fun n => let ⟨dx, vs, e1, e2, e3⟩ := r.2 n; ⟨dx, vs, e1, g.tk.xd _ _ e2, Paired.mapP e3 fun _ _ z => ⟨z.1, g.rd z.2⟩⟩⟩
structure RE (T : Fx) (m : Nat → Addr) (N : Nat) (H : Hp) (e : Ev) (σ : St) : Prop where
  len : e.length = σ.length
  at_ : ∀ (i : Nat) (d : D), e[i]? = some (some d) → ∃ v, σ[i]? = some (some v) ∧ RD T.K m N H d v
  exc : ∀ (i : Nat) (a : Addr) (x : Xc) (dd : Option Addr), T.ex = some (i, a, x, dd) → σ[i]? = some (some (.ref a)) ∧ RXf T.K m N H x.fs dd
def Nx (T : Fx) (i : Nat) : Prop := ∀ (j : Nat) (q : Addr × Xc × Option Addr), T.ex = some (j, q) → j ≠ i
theorem Ge.re {T : Fx} {m m' : Nat → Addr} {h h' : Hh} {H H' : Hp} (g : Ge m h H m' h' H') {e : Ev} {σ : St} (r : RE T m h.length H e σ) : RE T m' h'.length H' e σ :=
  ⟨r.len, fun i d x => let ⟨v, h1, h2⟩ := r.at_ i d x; ⟨v, h1, g.rd h2⟩, fun i a x dd e => let ⟨e1, e2⟩ := r.exc i a x dd e; ⟨e1, g.rxf e2⟩⟩
theorem RE.put {T : Fx} {m : Nat → Addr} {N : Nat} {H : Hp} {e : Ev} {σ : St} (r : RE T m N H e σ) (i : Nat) {o : Option D} {w : Option V} (nx : Nx T i) (q : ∀ d, o = some d → ∃ v, w = some v ∧ RD T.K m N H d v) : RE T m N H (e.set i o) (σ.set i w) := by
  refine ⟨by rw [List.length_set, List.length_set]; exact r.len, fun j x h => ?_, fun j a x dd h => by rw [List.getElem?_set_ne (Ne.symm (nx j _ h))]; exact r.exc j a x dd h⟩
  by_cases hij : i = j
  · subst hij
    by_cases hl : i < e.length
    · rw [List.getElem?_set_self hl] at h
      obtain ⟨v, rfl, rv⟩ := q x (Option.some.inj h)
      exact ⟨v, List.getElem?_set_self (by rw [← r.len]; exact hl), rv⟩
    · rw [List.getElem?_eq_none (by rw [List.length_set]; omega)] at h
      cases h
  · rw [List.getElem?_set_ne hij] at h ⊢
    exact r.at_ j x h
theorem RE.set {T : Fx} {m : Nat → Addr} {N : Nat} {H : Hp} {e : Ev} {σ : St} (r : RE T m N H e σ) (i : Nat) {d : D} {v : V} (nx : Nx T i) (q : RD T.K m N H d v) : RE T m N H (e.set i (some d)) (σ.set i (some v)) :=
  r.put i nx fun d' e => by cases e; exact ⟨v, rfl, q⟩
theorem RE.drop1 {T : Fx} {m : Nat → Addr} {N : Nat} {H : Hp} {e : Ev} {σ : St} (r : RE T m N H e σ) (i : Nat) (nx : Nx T i) (w : Option V) : RE T m N H (e.set i none) (σ.set i w) :=
  r.put i nx fun d' e => by cases e
theorem RE.wipe {T : Fx} {m : Nat → Addr} {N : Nat} {H : Hp} {e : Ev} {σ : St} (r : RE T m N H e σ) (hx : T.ex = none) : ∀ vs : List Nat, RE T m N H (Mn.wipe e vs) (L2.wipe σ vs)
  | [] => r
  | v :: vs => (RE.wipe r hx vs).drop1 v (fun j a h => by rw [hx] at h; cases h) none
def RX (T : Fx) (m : Nat → Addr) (N : Nat) (H : Hp) (x : Xc) (cls : Value) (dd : Option Addr) : Prop :=
  cls = T.cv x.cls ∧ RXf T.K m N H x.fs dd
section
variable (T : Fx) (W : WX)
def PO {α β : Type} (RA : (Nat → Addr) → Nat → Hp → α → β → Prop) (σ : St) (m : Nat → Addr) (h : Hh) (H : Hp) (r : R α) (Q : β → Hp → Prop) : Prop := match r with
  | .ok a h' => ∀ m' H' b, Ge m h H m' h' H' → RH T m' h' H' → RA m' h'.length H' a b → Q b H'
  | .exc x h' => ∀ m' H' cls dd, Ge m h H m' h' H' → RH T m' h' H' → RX T m' h'.length H' x cls dd → W cls dd σ H'
  | .stuck => False
def PE_ (f : ED) : TE := fun σ H Q => ∃ m e h, RH T m h H ∧ RE T m h.length H e σ ∧ PO T W (fun m N H d v => RD T.K m N H d v) σ m h H (f e h) Q
def PT_ (f : TD) : TT := fun σ H Q => ∃ m e h, RH T m h H ∧ RE T m h.length H e σ ∧ PO T W (fun _ _ _ d v => d = v) σ m h H (f e h) Q
def PA_ (f : AD) : TA := fun σ H Q => ∃ m e h, RH T m h H ∧ RE T m h.length H e σ ∧ PO T W (fun m N H d v => RDs T.K m N H d v) σ m h H (f e h) Q
def PSo (D : Ends) (m : Nat → Addr) (h : Hh) (H : Hp) (r : RS) : Prop := match r with
  | .go .nx e' h' => ∀ m' H' σ', Ge m h H m' h' H' → RH T m' h' H' → RE T m' h'.length H' e' σ' → D.nx σ' H'
  | .go .bk e' h' => ∀ m' H' σ', Ge m h H m' h' H' → RH T m' h' H' → RE T m' h'.length H' e' σ' → D.bk σ' H'
  | .go .ct e' h' => ∀ m' H' σ', Ge m h H m' h' H' → RH T m' h' H' → RE T m' h'.length H' e' σ' → D.ct σ' H'
  | .go (.rt d) _ h' => ∀ m' H' v, Ge m h H m' h' H' → RH T m' h' H' → RD T.K m' h'.length H' d v → D.rt v H'
  | .exc x e' h' => ∀ m' H' σ' cls dd, Ge m h H m' h' H' → RH T m' h' H' → RE T m' h'.length H' e' σ' → RX T m' h'.length H' x cls dd → W cls dd σ' H'
  | .stuck => False
def PS_ (f : SD) : TS := fun D σ H => ∃ m e h, RH T m h H ∧ RE T m h.length H e σ ∧ PSo T W D m h H (f e h)
end
section
variable {T : Fx} {W : WX}
theorem PO.base {α β : Type} {RA : (Nat → Addr) → Nat → Hp → α → β → Prop} {σ : St} {m m1 : Nat → Addr} {h h1 : Hh} {H H1 : Hp} {r : R α} {Q : β → Hp → Prop} (p : PO T W RA σ m h H r Q) (g : Ge m h H m1 h1 H1) : PO T W RA σ m1 h1 H1 r Q := by
  cases r with
  | ok a h' => exact fun m' H' b g' => p m' H' b (g.trans g')
  | exc x h' => exact fun m' H' cls dd g' => p m' H' cls dd (g.trans g')
  | stuck => exact p
theorem PSo.base {D : Ends} {m m1 : Nat → Addr} {h h1 : Hh} {H H1 : Hp} {r : RS} (p : PSo T W D m h H r) (g : Ge m h H m1 h1 H1) : PSo T W D m1 h1 H1 r := by
  cases r with
  | go f e h' => cases f with
    | nx => exact fun m' H' b g' => p m' H' b (g.trans g')
    | bk => exact fun m' H' b g' => p m' H' b (g.trans g')
    | ct => exact fun m' H' b g' => p m' H' b (g.trans g')
    | rt d => exact fun m' H' b g' => p m' H' b (g.trans g')
  | exc x e h' => exact fun m' H' σ' cls dd g' => p m' H' σ' cls dd (g.trans g')
  | stuck => exact p
theorem PO.bind {α β γ δ : Type} {RA : (Nat → Addr) → Nat → Hp → α → β → Prop} {RB : (Nat → Addr) → Nat → Hp → γ → δ → Prop} {σ : St} {m : Nat → Addr} {h : Hh} {H : Hp} {r : R α} {f : α → Hh → R γ} {Q : δ → Hp → Prop} {Q1 : β → Hp → Prop}
    (p : PO T W RB σ m h H (r.bind f) Q) (k : ∀ a h' m' H' b, Ge m h H m' h' H' → RH T m' h' H' → RA m' h'.length H' a b → PO T W RB σ m' h' H' (f a h') Q → Q1 b H') : PO T W RA σ m h H r Q1 := by
  cases r with
  | ok a h' => exact fun m' H' b g rh ra => k a h' m' H' b g rh ra (PO.base (r := f a h') p g)
  | exc x h' => exact p
  | stuck => exact p
theorem PO.toS {α β : Type} {RA : (Nat → Addr) → Nat → Hp → α → β → Prop} {σ : St} {e : Ev} {D : Ends} {m : Nat → Addr} {h : Hh} {H : Hp} {r : R α} {f : α → Hh → RS} {Q1 : β → Hp → Prop} (re : RE T m h.length H e σ)
    (p : PSo T W D m h H (r.toS e f)) (k : ∀ a h' m' H' b, Ge m h H m' h' H' → RH T m' h' H' → RA m' h'.length H' a b → PSo T W D m' h' H' (f a h') → Q1 b H') : PO T W RA σ m h H r Q1 := by
  cases r with
  | ok a h' => exact fun m' H' b g rh ra => k a h' m' H' b g rh ra (PSo.base (r := f a h') p g)
  | exc x h' => exact fun m' H' cls dd g rh rx => p m' H' σ cls dd g rh (g.re re) rx
  | stuck => exact p
theorem RO.there {m : Nat → Addr} {N : Nat} {H : Hp} {a : Addr} {o : O} (r : RO T m N H a o) (f : isFz o = false) : ∃ w, H a = some w ∧ (∀ xs, w ≠ .tup xs) ∧ ∀ o xs, w ≠ .frz o xs := by
  cases o with
  | lst ds => obtain ⟨vs, q, _⟩ := r; exact ⟨_, q, fun _ z => (by cases z), fun _ _ z => by cases z⟩
  | frz ds => cases f
  | ins c fs => obtain ⟨C, dx, vs, _, q, _, _, _⟩ := r; exact ⟨_, q, fun _ z => (by cases z), fun _ _ z => by cases z⟩
theorem RO.mono {m m' : Nat → Addr} {h h' : Hh} {H H' : Hp} {a : Addr} {o : O} (g : Ge m h H m' h' H') (r : RO T m h.length H a o) (k : isFz o = false → H' a = H a) : RO T m' h'.length H' a o := by
  cases o with
  | lst ds => obtain ⟨vs, q1, q2⟩ := r; exact ⟨vs, (k rfl).trans q1, g.rds q2⟩
  | frz ds => obtain ⟨vs, q1, q2⟩ := r; exact ⟨vs, q1.mono g.tk, g.rds q2⟩
  | ins c fs => obtain ⟨C, dx, vs, q0, q1, q2, q3⟩ := r; exact ⟨C, dx, vs, q0, (k rfl).trans q1, Paired.mapP q2 fun _ _ z => ⟨z.1, g.rd z.2⟩, q3⟩
theorem RH.new {m : Nat → Addr} {h : Hh} {H : Hp} {p : Addr} {u : HO} {o : O} (r : RH T m h H) (hp : H p = none) (ho : ∀ m' : Nat → Addr, (∀ n, n < h.length → m' n = m n) → m' h.length = p → RO T m' (h.length + 1) (upd H p u) p o) :
    ∃ m', Ge m h H m' (h ++ [o]) (upd H p u) ∧ RH T m' (h ++ [o]) (upd H p u) ∧ RD T.K m' (h ++ [o]).length (upd H p u) (.ref h.length) (.ref p) := by
  refine ⟨fun n => if n < h.length then m n else p, ?_⟩
  have e1 : ∀ n, n < h.length → (if n < h.length then m n else p) = m n := fun n hn => if_pos hn
  have e2 : (if h.length < h.length then m h.length else p) = p := if_neg (Nat.lt_irrefl _)
  have g : Ge m h H (fun n => if n < h.length then m n else p) (h ++ [o]) (upd H p u) := ⟨e1, by rw [List.length_append]; exact Nat.le_add_right _ _, TK.upd hp⟩
  have ne : ∀ i o', h[i]? = some o' → isFz o' = false → m i ≠ p := fun i o' hi f z => by
    obtain ⟨w, hw, _⟩ := (r.obj i o' hi).there f
    rw [z, hp] at hw
    cases hw
  have old : ∀ {n o'}, (h ++ [o])[n]? = some o' → n < h.length ∧ h[n]? = some o' ∨ n = h.length ∧ o' = o := fun {n o'} hn => by
    by_cases hl : n < h.length
    · rw [List.getElem?_append_left hl] at hn
      exact .inl ⟨hl, hn⟩
    · have hn' := (List.getElem?_eq_some_iff.mp hn).1
      rw [List.length_append, List.length_singleton] at hn'
      have en : n = h.length := by omega
      subst en
      rw [List.getElem?_append_right (Nat.le_refl _), Nat.sub_self] at hn
      exact .inr ⟨rfl, (Option.some.inj hn).symm⟩
  refine ⟨g, ⟨fun n o' hn => ?_, fun i j o1 o2 h1 h2 f1 f2 e => ?_⟩, ?_⟩
  · rcases old hn with ⟨hl, hn⟩ | ⟨rfl, rfl⟩
    · simp only [if_pos hl]
      exact (r.obj n o' hn).mono g fun f => upd_ne (ne n o' hn f)
    · simp only [if_neg (Nat.lt_irrefl _), List.length_append, List.length_singleton]
      exact ho _ e1 e2
  · rcases old h1 with ⟨hi, k1⟩ | ⟨rfl, rfl⟩ <;> rcases old h2 with ⟨hj, k2⟩ | ⟨rfl, rfl⟩
    · simp only [if_pos hi, if_pos hj] at e
      exact r.inj i j o1 o2 k1 k2 f1 f2 e
    · simp only [if_pos hi, if_neg (Nat.lt_irrefl _)] at e
      exact absurd e (ne i o1 k1 f1)
    · simp only [if_pos hj, if_neg (Nat.lt_irrefl _)] at e
      exact absurd e.symm (ne j o2 k2 f2)
    · rfl
  · have hl : h.length < (h ++ [o]).length := by rw [List.length_append]; exact Nat.lt_succ_self _
    have q := RD.ref (K := T.K) (m := fun n => if n < h.length then m n else p) (H := upd H p u) hl
    simp only [if_neg (Nat.lt_irrefl _)] at q
    exact q
theorem RH.lay {m : Nat → Addr} {h : Hh} {H : Hp} {p : Addr} {u : HO} (r : RH T m h H) (hp : H p = none) : Ge m h H m h (upd H p u) ∧ RH T m h (upd H p u) := by
  have g : Ge m h H m h (upd H p u) := ⟨fun _ _ => rfl, Nat.le_refl _, TK.upd hp⟩
  refine ⟨g, ⟨fun n o hn => (r.obj n o hn).mono g fun f => ?_, r.inj⟩⟩
  obtain ⟨w, hw, _⟩ := (r.obj n o hn).there f
  exact upd_ne (ne_of_none hw hp)
theorem RH.put {m : Nat → Addr} {h : Hh} {H : Hp} {n : Nat} {u w : HO} {o o₀ : O} (r : RH T m h H) (hn : h[n]? = some o₀) (hf : isFz o₀ = false) (hf' : isFz o = false) (hw : H (m n) = some w) (n1 : ∀ xs, w ≠ .tup xs) (n2 : ∀ o xs, w ≠ .frz o xs) (n3 : ∀ xs, w ≠ .xd xs) (n4 : ∀ lo hi, w ≠ .rng lo hi)
    (ho : RO T m h.length (upd H (m n) u) (m n) o) : Ge m h H m (h.set n o) (upd H (m n) u) ∧ RH T m (h.set n o) (upd H (m n) u) := by
  have g : Ge m h H m (h.set n o) (upd H (m n) u) := ⟨fun _ _ => rfl, Nat.le_of_eq (List.length_set ..).symm, TK.set hw n1 n2 n3 n4⟩
  have hl := (List.getElem?_eq_some_iff.mp hn).1
  have old : ∀ {i o'}, (h.set n o)[i]? = some o' → n ≠ i ∧ h[i]? = some o' ∨ n = i ∧ o' = o := fun {i o'} hi => by
    by_cases hin : n = i
    · subst hin
      rw [List.getElem?_set_self hl] at hi
      exact .inr ⟨rfl, (Option.some.inj hi).symm⟩
    · rw [List.getElem?_set_ne hin] at hi
      exact .inl ⟨hin, hi⟩
  refine ⟨g, ⟨fun i o' hi => ?_, fun i j o1 o2 h1 h2 f1 f2 e => ?_⟩⟩
  · rcases old hi with ⟨hin, hi⟩ | ⟨rfl, rfl⟩
    · exact (r.obj i o' hi).mono g fun f => upd_ne fun e => hin (r.inj i n o' o₀ hi hn f hf e).symm
    · rw [List.length_set]
      exact ho
  · rcases old h1 with ⟨hi, k1⟩ | ⟨rfl, rfl⟩ <;> rcases old h2 with ⟨hj, k2⟩ | ⟨rfl, rfl⟩
    · exact r.inj i j o1 o2 k1 k2 f1 f2 e
    · exact r.inj i _ o1 o₀ k1 hn f1 hf e
    · exact r.inj _ j o₀ o2 hn k2 hf f2 e
    · rfl
theorem RH.lst {m : Nat → Addr} {h : Hh} {H : Hp} {n : Nat} {ds : List D} (r : RH T m h H) (e : lstAt h n = some ds) : n < h.length ∧ ∃ vs, SqL T.K H (m n) vs ∧ RDs T.K m h.length H ds vs := by
  unfold lstAt at e
  cases q : h[n]? with
  | none => rw [q] at e; cases e
  | some o =>
    refine ⟨(List.getElem?_eq_some_iff.mp q).1, ?_⟩
    rw [q] at e
    have ro := r.obj n o q
    cases o with
    | lst xs =>
      obtain ⟨vs, q1, q2⟩ := ro
      cases e
      exact ⟨vs, .inl (.inl q1), q2⟩
    | frz xs =>
      obtain ⟨vs, q1, q2⟩ := ro
      cases e
      exact ⟨vs, q1.seq, q2⟩
    | ins c fs => cases e
theorem RH.mut {m : Nat → Addr} {h : Hh} {H : Hp} {n : Nat} {ds : List D} (r : RH T m h H) (e : h[n]? = some (.lst ds)) : n < h.length ∧ ∃ vs, H (m n) = some (.lst vs) ∧ RDs T.K m h.length H ds vs :=
  ⟨(List.getElem?_eq_some_iff.mp e).1, r.obj n _ e⟩
theorem RH.newL {m : Nat → Addr} {h : Hh} {H : Hp} {p : Addr} {ds : List D} {vs : List V} (r : RH T m h H) (hp : H p = none) (q : RDs T.K m h.length H ds vs) :
    ∃ m', Ge m h H m' (h ++ [.lst ds]) (upd H p (.lst vs)) ∧ RH T m' (h ++ [.lst ds]) (upd H p (.lst vs)) ∧ RD T.K m' (h ++ [O.lst ds]).length (upd H p (.lst vs)) (.ref h.length) (.ref p) :=
  r.new hp fun m' e1 e2 => ⟨vs, upd_same, q.mono (TK.upd hp) e1 (Nat.le_succ _)⟩
theorem RH.putL {m : Nat → Addr} {h : Hh} {H : Hp} {n : Nat} {ds es : List D} {vs : List V} {ws : List V} (r : RH T m h H) (hn : h[n]? = some (.lst es)) (hw : H (m n) = some (.lst ws)) (q : RDs T.K m h.length H ds vs) :
    Ge m h H m (h.set n (.lst ds)) (upd H (m n) (.lst vs)) ∧ RH T m (h.set n (.lst ds)) (upd H (m n) (.lst vs)) :=
  r.put hn rfl rfl hw (fun _ z => by cases z) (fun _ _ z => by cases z) (fun _ z => by cases z) (fun _ _ z => by cases z) ⟨vs, upd_same, q.mono (TK.set hw (fun _ z => by cases z) (fun _ _ z => by cases z) (fun _ z => by cases z) (fun _ _ z => by cases z)) (fun _ _ => rfl) (Nat.le_refl _)⟩
theorem RH.ex {T : Fx} {o : Xs} {m : Nat → Addr} {h : Hh} {H : Hp} (r : RH T m h H) : RH ⟨T.K, T.cv, T.fn, o⟩ m h H := ⟨fun n o hn => r.obj n o hn, r.inj⟩
theorem PSo.flow {T : Fx} {W W' : WX} {D : Ends} {m : Nat → Addr} {h : Hh} {H : Hp} {f : F} {e : Ev} {h' : Hh} (p : PSo T W D m h H (.go f e h')) : PSo T W' D m h H (.go f e h') := by
  cases f <;> exact p
end
end Mn
namespace Mn
open PySem L2
abbrev FX (X : Cx) (cv : Nat → Value) (fn : Nat → Str) (xs : Xs) : Fx := ⟨X.K, cv, fn, xs⟩
theorem peImp {X : Cx} {e : Expr} {t t' : TE} (h : PE X e t) (w : ∀ σ H Q, t' σ H Q → t σ H Q) : PE X e t' := ⟨fun pins s σ H Q I q => h.run pins s σ H Q I (w σ H Q q)⟩
theorem ptImp {X : Cx} {e : Expr} {t t' : TT} (h : PT X e t) (w : ∀ σ H Q, t' σ H Q → t σ H Q) : PT X e t' := ⟨fun pins s σ H Q I q => h.run pins s σ H Q I (w σ H Q q)⟩
theorem paImp {X : Cx} {e : List Expr} {t t' : TA} (h : PA X e t) (w : ∀ σ H Q, t' σ H Q → t σ H Q) : PA X e t' := ⟨fun pos pins s σ H Q I q => h.run pos pins s σ H Q I (w σ H Q q)⟩
theorem psImp {X : Cx} {e : Stmt} {t t' : TS} (h : PS X e t) (w : ∀ D σ H, t' D σ H → t D σ H) : PS X e t' := ⟨fun pins s σ H D I q => h.run pins s σ H D I (w D σ H q)⟩
theorem pssImp {X : Cx} {e : List Stmt} {t t' : TS} (h : PSs X e t) (w : ∀ D σ H, t' D σ H → t D σ H) : PSs X e t' := ⟨fun pins s σ H D I q => h.run pins s σ H D I (w D σ H q)⟩
abbrev rdR (T : Fx) : (Nat → Addr) → Nat → Hp → D → V → Prop := fun m N H d v => RD T.K m N H d v
def r2 (T : Fx) (g : D → D → Hh → R D) : R2 := fun x y H Q => ∃ (W : WX) (σ : L2.St) (m : Nat → Addr) (h : Hh) (a b : D), RH T m h H ∧ RD T.K m h.length H a x ∧ RD T.K m h.length H b y ∧ PO T W (rdR T) σ m h H (g a b h) Q
def r1 (T : Fx) (g : D → Hh → R D) : V → Hp → VK → Prop := fun x H Q => ∃ (W : WX) (σ : L2.St) (m : Nat → Addr) (h : Hh) (a : D), RH T m h H ∧ RD T.K m h.length H a x ∧ PO T W (rdR T) σ m h H (g a h) Q
def rN (T : Fx) (g : FD) : List V → Hp → VK → Prop := fun xs H Q => ∃ (W : WX) (σ : L2.St) (m : Nat → Addr) (h : Hh) (ds : List D), RH T m h H ∧ RDs T.K m h.length H ds xs ∧ PO T W (rdR T) σ m h H (g ds h) Q
def rM (T : Fx) (g : D → List D → Hh → R D) : V → List V → Hp → VK → Prop := fun x xs H Q => ∃ (W : WX) (σ : L2.St) (m : Nat → Addr) (h : Hh) (d : D) (ds : List D), RH T m h H ∧ RD T.K m h.length H d x ∧ RDs T.K m h.length H ds xs ∧ PO T W (rdR T) σ m h H (g d ds h) Q
section
variable {T : Fx} {W : WX}
theorem bind2 {fa fb : ED} {g : D → D → Hh → R D} {σ : L2.St} {H : Hp} {Q : VK} (h : PE_ T W (fun e h => (fa e h).bind fun x h1 => (fb e h1).bind fun y h2 => g x y h2) σ H Q) :
    PE_ T W fa σ H fun x H1 => PE_ T W fb σ H1 fun y H2 => r2 T g x y H2 Q := by
  obtain ⟨m, e, h, rh, re, p⟩ := h
  refine ⟨m, e, h, rh, re, p.bind fun a h1 m1 H1 x g1 rh1 ra p1 => ⟨m1, e, h1, rh1, g1.re re, p1.bind fun b h2 m2 H2 y g2 rh2 rb p2 => ?_⟩⟩
  exact ⟨W, σ, m2, h2, a, b, rh2, g2.rd ra, rb, p2⟩
theorem bind1 {fa : ED} {g : D → Hh → R D} {σ : L2.St} {H : Hp} {Q : VK} (h : PE_ T W (fun e h => (fa e h).bind fun x h1 => g x h1) σ H Q) :
    PE_ T W fa σ H fun x H1 => r1 T g x H1 Q := by
  obtain ⟨m, e, h, rh, re, p⟩ := h
  exact ⟨m, e, h, rh, re, p.bind fun a h1 m1 H1 x g1 rh1 ra p1 => ⟨W, σ, m1, h1, a, rh1, ra, p1⟩⟩
theorem PO.here {α β : Type} {RA : (Nat → Addr) → Nat → Hp → α → β → Prop} {σ : L2.St} {m : Nat → Addr} {h : Hh} {H : Hp} {a : α} {b : β} {Q : β → Hp → Prop} (p : PO T W RA σ m h H (.ok a h) Q) (rh : RH T m h H) (ra : RA m h.length H a b) : Q b H :=
  p m H b Ge.refl rh ra
theorem PO.new {σ : L2.St} {m : Nat → Addr} {h : Hh} {H : Hp} {ds : List D} {vs : List V} {Q : VK} (p : PO T W (rdR T) σ m h H (.ok (.ref h.length) (h ++ [.lst ds])) Q) (rh : RH T m h H) (r : RDs T.K m h.length H ds vs) :
    ∀ q, H q = none → Q (.ref q) (upd H q (.lst vs)) := fun q hq => by
  obtain ⟨m', g, rh', rd⟩ := rh.newL hq r
  exact p m' _ _ g rh' rd
theorem PO.newT {σ : L2.St} {m : Nat → Addr} {h : Hh} {H : Hp} {ds : List D} {vs : List V} {Q : VK} (p : PO T W (rdR T) σ m h H (.ok (.tup ds) h) Q) (rh : RH T m h H) (r : RDs T.K m h.length H ds vs) :
    ∀ q, H q = none → Q (.ref q) (upd H q (.tup vs)) := fun q hq => by
  obtain ⟨g, rh'⟩ := rh.lay (u := .tup vs) hq
  exact p m _ _ g rh' (.tup (.inl (.inl upd_same)) (g.rds r))
end
section
variable {X : Cx} {cv : Nat → Value} {fn : Nat → Str} {xs : Xs} {W : WX} {pos : Pos} {a b c : Expr} {fa fb fc : ED}
theorem s_c {d : D} {v : V} {e : Expr} (h : PE X e (tC v)) (r : ∀ m N H, RD X.K m N H d v) : PE X e (PE_ (FX X cv fn xs) W (dC d)) :=
  peImp h fun σ H Q q => by
    obtain ⟨m, e, h, rh, re, p⟩ := q
    exact p m H v Ge.refl rh (r _ _ _)
theorem s_v {i : Nat} {x : Str} (hN : X.N[i]? = some x) (hv : Vis X.env.scope x) (hd : (x == ("__debug__" : Str)) = false) (hcd : (x == ("__classdict__" : Str)) = false) : PE X (.Name x pos) (PE_ (FX X cv fn xs) W (dV i)) :=
  peImp (pe_var hN hv hd hcd) fun σ H Q q => by
    obtain ⟨m, e, h, rh, re, p⟩ := q
    unfold dV at p
    split at p
    · rename_i d hd
      obtain ⟨v, h1, h2⟩ := re.at_ i d hd
      exact ⟨v, h1, p m H v Ge.refl rh h2⟩
    · exact p.elim
theorem op_mulG : OpR X (binaryOp .Mult) (rI (fun i j => i.natAbs.log2 + j.natAbs.log2 < 100000000) fun i j => .int (i * j)) := opI fun i j _ _ _ _ _ hc q => PyProof.Rows.mul_int q (by
  have b : ∀ x : Int, Builtin.Int.intBits x ≤ x.natAbs.log2 + 1 := fun x => by
    unfold Builtin.Int.intBits
    split <;> omega
  have h1 := b i
  have h2 := b j
  have e : bitsLine = 134217728 := by decide
  intro z
  rw [Bool.and_eq_true] at z
  have z2 := z.2
  unfold Builtin.Int.intTooBig at z2
  have z3 := of_decide_eq_true z2
  rw [e] at z3
  omega)
theorem op_fdivG : OpR X (binaryOp .FloorDiv) (rI (fun _ j => j ≠ 0 ∧ j.natAbs.log2 < 9000) fun i j => .int (i.fdiv j)) := opI fun _ _ _ _ _ _ _ hc q => PyProof.Rows.floordiv_int hc.1 q (.inl (PyProof.noPylong_of_log2 hc.2))
theorem rep_arr (c : Array Nat) : ∀ (k : Nat) (acc : Array Nat), ((List.replicate k c).foldl (· ++ ·) acc).size = acc.size + c.size * k
  | 0, acc => by rw [Nat.mul_zero]; rfl
  | k + 1, acc => by
    rw [List.replicate_succ, List.foldl_cons, rep_arr c k, Array.size_append, Nat.mul_succ]
    omega
theorem rep_len (a : Str) (k : Nat) : (repS a k).length = a.length * k := by
  show ((List.replicate k a.cps).foldl (· ++ ·) #[]).size = _
  rw [rep_arr]
  exact Nat.zero_add _
theorem o_bin (op : Operator) : OpR X (binaryOp op) (r2 (FX X cv fn xs) (bop op)) := by
  intro pins s σ0 H x y v u Q I rx ry hh
  obtain ⟨W, σ, m, h, d1, d2, rh, ra, rb, p⟩ := hh
  unfold bop at p
  split at p
  · cases ra; cases rb; exact op_add pins s σ0 H _ _ v u Q I rx ry ⟨_, _, rfl, rfl, p.here rh (.int _)⟩
  · cases ra; cases rb; exact op_sub pins s σ0 H _ _ v u Q I rx ry ⟨_, _, rfl, rfl, p.here rh (.int _)⟩
  · cases ra; cases rb
    split at p
    · exact op_mulG pins s σ0 H _ _ v u Q I rx ry ⟨_, _, rfl, rfl, by assumption, p.here rh (.int _)⟩
    · exact p.elim
  · cases ra; cases rb
    split at p
    · exact op_fdivG pins s σ0 H _ _ v u Q I rx ry ⟨_, _, rfl, rfl, by assumption, p.here rh (.int _)⟩
    · exact p.elim
  · cases ra; cases rb
    split at p
    · exact op_modN pins s σ0 H _ _ v u Q I rx ry ⟨_, _, rfl, rfl, by assumption, p.here rh (.int _)⟩
    · exact p.elim
  · cases ra; cases rb
    split at p
    · exact op_pow pins s σ0 H _ _ v u Q I rx ry ⟨_, _, rfl, rfl, by assumption, p.here rh (.int _)⟩
    · exact p.elim
  · cases ra; cases rb
    split at p
    · exact op_shl pins s σ0 H _ _ v u Q I rx ry ⟨_, _, rfl, rfl, by assumption, p.here rh (.int _)⟩
    · exact p.elim
  · cases ra; cases rb
    split at p
    · exact op_shr pins s σ0 H _ _ v u Q I rx ry ⟨_, _, rfl, rfl, by assumption, p.here rh (.int _)⟩
    · exact p.elim
  · cases ra; cases rb; exact op_and pins s σ0 H _ _ v u Q I rx ry ⟨_, _, rfl, rfl, p.here rh (.int _)⟩
  · cases ra; cases rb; exact op_or pins s σ0 H _ _ v u Q I rx ry ⟨_, _, rfl, rfl, p.here rh (.int _)⟩
  · cases ra; cases rb
    split at p
    · exact op_add_str pins s σ0 H _ _ v u Q I rx ry ⟨_, _, rfl, rfl, by rw [sizeLine_eq]; assumption, p.here rh (.str _)⟩
    · exact p.elim
  · cases ra with
    | tup s1 q1 => cases rb with
      | tup s2 q2 =>
        split at p
        · rename_i hz
          refine op_catA pins s σ0 H _ _ v u Q I rx ry ⟨_, _, _, _, rfl, rfl, s1, s2, ?_, fun z => ?_, fun _ z => ?_, fun _ _ => p.newT rh (q1.append q2)⟩
          · rw [sizeLine_eq, ← q1.length, ← q2.length]; exact hz
          · subst z
            cases q1
            rw [List.nil_append] at p
            exact p.here rh (.tup s2 q2)
          · subst z
            cases q2
            rw [List.append_nil] at p
            exact p.here rh (.tup s1 q1)
        · exact p.elim
  · cases ra with
    | ref h1 => cases rb with
      | ref h2 =>
        split at p
        · rename_i a b ea eb
          split at p
          · rename_i hz
            obtain ⟨_, vs, q1, r1⟩ := rh.mut ea
            obtain ⟨_, ws, q2, r2⟩ := rh.mut eb
            exact op_cat pins s σ0 H _ _ v u Q I rx ry ⟨_, _, _, _, rfl, rfl, q1, q2, by rw [sizeLine_eq, ← r1.length, ← r2.length]; exact hz, p.new rh (r1.append r2)⟩
          · exact p.elim
        · exact p.elim
  · cases ra with
    | ref h1 =>
      cases rb
      split at p
      · rename_i a ea
        split at p
        · rename_i hz
          obtain ⟨_, vs, q1, r1⟩ := rh.mut ea
          exact op_rep pins s σ0 H _ _ v u Q I rx ry ⟨_, _, _, rfl, rfl, q1, hz.1, hz.2.1, by rw [sizeLine_eq, ← r1.length]; exact hz.2.2, p.new rh (r1.rep _)⟩
        · exact p.elim
      · exact p.elim
  · cases ra; cases rb
    split at p
    · rename_i a k hz
      obtain ⟨t, rfl⟩ := rx
      obtain ⟨t', rfl⟩ := ry
      have hk : ¬ k < 1 := by omega
      have h0 : (k == 1 || a.length == 0) = false := by
        rw [Bool.or_eq_false_iff, beq_eq_false_iff_ne, beq_eq_false_iff_ne]
        omega
      have hm : a.length * k.toNat ≤ 1000 * 10000 := Nat.mul_le_mul hz.2.2.2 (by omega)
      refine PySem.P.mul_str ?_ (fun _ _ => ?_) (fun _ _ => ?_) ?_
      · rw [decide_eq_false (by omega), decide_eq_false (by omega)]; rfl
      · refine Int.not_lt.mpr (Int.le_ediv_of_mul_le (by omega) ?_)
        have e : ((a.length : Int)) * k = ((a.length * k.toNat : Nat) : Int) := by
          rw [Int.natCast_mul, Int.toNat_of_nonneg (by omega)]
        rw [e]
        omega
      · unfold Builtin.Str.tooLong
        rw [decide_eq_false_iff_not, sizeLine_eq]
        omega
      · rw [if_neg hk, if_neg (by rw [h0]; exact Bool.false_ne_true)]
        refine ⟨?_, ⟨.str _, H, I.tok _, ⟨_, rfl⟩, p.here rh (.str _)⟩⟩
        show (repS a k.toNat).length ≤ sizeLine
        rw [rep_len, sizeLine_eq]
        omega
    · exact p.elim
  · exact p.elim
theorem s_bin {op : Operator} (ha : PE X a (PE_ (FX X cv fn xs) W fa)) (hb : PE X b (PE_ (FX X cv fn xs) W fb)) : PE X (.BinOp a op b pos) (PE_ (FX X cv fn xs) W (dB op fa fb)) :=
  peImp (pe_op (o_bin op) ha hb) fun _ _ _ q => bind2 q
theorem o_un (op : UnaryOp) : UnR X (unaryOp op) (r1 (FX X cv fn xs) (uop op)) := by
  intro pins s σ0 H x v Q I rx hh
  obtain ⟨W, σ, m, h, d1, rh, ra, p⟩ := hh
  unfold uop at p
  split at p
  · cases ra; exact un_neg pins s σ0 H _ v Q I rx ⟨_, rfl, p.here rh (.int _)⟩
  · exact p.elim
theorem s_un {op : UnaryOp} (ha : PE X a (PE_ (FX X cv fn xs) W fa)) : PE X (.UnaryOp op a pos) (PE_ (FX X cv fn xs) W (dU op fa)) :=
  peImp (pe_un (o_un op) ha) fun _ _ _ q => bind1 q
end
end Mn
namespace Mn
open PySem L2
section
variable {T : Fx} {m : Nat → Addr} {h : Hh} {H : Hp}
theorem allS_dp (f : D → Option PyData) (ih : ∀ d v pd, f d = some pd → RD T.K m h.length H d v → Dp T.K H v pd) :
    ∀ (ds : List D) (vs : List V) (ps : List PyData), allS f ds = some ps → RDs T.K m h.length H ds vs → DpAll T.K H vs ps
  | [], _, _, e, r => by cases r; cases e; exact .nil
  | d :: ds, _, ps, e, r => by
    cases r with
    | cons r1 r2 =>
      unfold allS at e
      split at e
      · rename_i x xs e1 e2
        cases e
        exact .cons (ih _ _ _ e1 r1) (allS_dp f ih ds _ _ e2 r2)
      · cases e
theorem toPD_dp (rh : RH T m h H) : ∀ (k : Nat) (d : D) (v : V) (pd : PyData), toPD h k d = some pd → RD T.K m h.length H d v → Dp T.K H v pd
  | 0, d, v, pd, e, r => by
    cases d <;> first
      | (cases r; cases e; first | exact .non | exact .bl _ | exact .int _ | exact .str _)
      | (simp [toPD] at e)
  | k + 1, d, v, pd, e, r => by
    cases d with
    | non => cases r; cases e; exact .non
    | bl b => cases r; cases e; exact .bl _
    | int b => cases r; cases e; exact .int _
    | str b => cases r; cases e; exact .str _
    | tup ds =>
      cases r with
      | tup s q =>
        simp only [toPD] at e
        obtain ⟨ps, e1, rfl⟩ := Option.map_eq_some_iff.mp e
        exact .tup s (allS_dp _ (toPD_dp rh k) _ _ _ e1 q)
    | ref n =>
      cases r
      simp only [toPD] at e
      split at e
      · rename_i ds e0
        obtain ⟨ps, e1, rfl⟩ := Option.map_eq_some_iff.mp e
        obtain ⟨_, vs, s, q⟩ := rh.lst e0
        exact .lst s (allS_dp _ (toPD_dp rh k) _ _ _ e1 q)
      · cases e
    | rg lo hi => cases e
theorem flat_rd {d : D} {v : V} (r : RD T.K m h.length H d v) (f : flatD d = true) : flatV v = true := by
  cases r <;> first | rfl | cases f
theorem eqF_rd {d e : D} {v w : V} (r : RD T.K m h.length H d v) (q : RD T.K m h.length H e w) (f : flatD d = true) (g : flatD e = true) : eqV v w = eqF d e := by
  cases r <;> first | (cases f; done) | (cases q <;> first | rfl | cases g)
theorem flat_all : ∀ {ds : List D} {vs : List V}, RDs T.K m h.length H ds vs → ds.all flatD = true → vs.all flatV = true
  | _, _, .nil, _ => rfl
  | _, _, .cons a b, f => by
    rw [List.all_cons, Bool.and_eq_true] at f ⊢
    exact ⟨flat_rd a f.1, flat_all b f.2⟩
theorem any_rd {d : D} {v : V} (r : RD T.K m h.length H d v) (f : flatD d = true) : ∀ {ds : List D} {vs : List V}, RDs T.K m h.length H ds vs → ds.all flatD = true → (vs.any fun y => eqV y v) = ds.any fun y => eqF y d
  | _, _, .nil, _ => rfl
  | _, _, .cons a b, g => by
    rw [List.all_cons, Bool.and_eq_true] at g
    rw [List.any_cons, List.any_cons, any_rd r f b g.2, eqF_rd a r g.1 f]
theorem inD_rd {d : D} {v : V} {ds : List D} {vs : List V} {k : Bool} (r : RD T.K m h.length H d v) (q : RDs T.K m h.length H ds vs) (e : inD h d ds = some k) : flatV v = true ∧ vs.all flatV = true ∧ inV v vs = k := by
  unfold inD at e
  split at e
  · rename_i hc
    cases e
    exact ⟨flat_rd r hc.1, flat_all q hc.2, any_rd r hc.1 q hc.2⟩
  · cases e
theorem inA_of {x c : D} {ys : List D} {k : Bool} (e : inA h x c ys = some k) : inD h x ys = some k ∨ inS h x c = some k := by
  unfold inA at e
  split at e
  · rename_i b e1
    cases e
    exact .inl e1
  · exact .inr e
def rInS (K : PySem.W.Frag) (no : Bool) : R2 := fun x y H Q => ∃ (d : PyData) (ds : List PyData), Dp K H x d ∧ SeqAt.shaped d = true ∧ ((Dp K H y (.list ds) ∧ SeqAt.shaped (.list ds) = true) ∨ (Dp K H y (.tuple ds) ∧ SeqAt.shaped (.tuple ds) = true)) ∧ Q (.bl (if no = true then !(ds.any fun z => PyData.eqv z d) else ds.any fun z => PyData.eqv z d)) H
theorem inS_rd (rh : RH T m h H) {x c : D} {v w : V} {k : Bool} {no : Bool} {Q : VK} (r : RD T.K m h.length H x v) (rc : RD T.K m h.length H c w) (e : inS h x c = some k) (q : Q (.bl (if no = true then !k else k)) H) : rInS T.K no v w H Q := by
  unfold inS at e
  split at e
  · rename_i ps p e1 e2
    split at e
    · rename_i hs
      cases e
      exact ⟨p, ps, toPD_dp rh _ _ _ _ e2 r, hs.1, .inl ⟨toPD_dp rh _ _ _ _ e1 rc, hs.2⟩, q⟩
    · cases e
  · rename_i ps p e1 e2
    split at e
    · rename_i hs
      cases e
      exact ⟨p, ps, toPD_dp rh _ _ _ _ e2 r, hs.1, .inr ⟨toPD_dp rh _ _ _ _ e1 rc, hs.2⟩, q⟩
    · cases e
  · cases e
theorem isNon_rd {d : D} {v : V} (r : RD T.K m h.length H d v) : decide (v = V.non) = isNon d := by
  cases r <;> simp [isNon]
theorem atI_rd {ds : List D} {vs : List V} {i : Int} {d : D} (r : RDs T.K m h.length H ds vs) (e : atI ds i = some d) : ∃ v, atI vs i = some v ∧ RD T.K m h.length H d v := by
  unfold atI at e ⊢
  rw [← r.length]
  cases q : ixN ds.length i with
  | none => rw [q] at e; cases e
  | some j =>
    rw [q] at e
    exact r.get e
end
section
variable {X : Cx} {cv : Nat → Value} {fn : Nat → Str} {xs : Xs} {W : WX} {pos : Pos} {a b c : Expr} {fa fb fc : ED}
theorem PO.ofB {T : Fx} {W : WX} {σ : L2.St} {m : Nat → Addr} {h : Hh} {H : Hp} {o : Option Bool} {f : Bool → Bool} {Q : VK} (p : PO T W (rdR T) σ m h H (ofB o f h) Q) (rh : RH T m h H) : ∃ k, o = some k ∧ Q (.bl (f k)) H := by
  cases o with
  | none => exact p.elim
  | some k => exact ⟨k, rfl, PO.here p rh (.bl _)⟩
theorem op_inS (hu : X.A.units + 65 < cLine) (no : Bool) : OpR X (compareOp (if no = true then .NotIn else .In)) (rInS X.K no) := by
  intro pins s σ H x y v u Q I rx ry hh
  obtain ⟨d, ds, hd, sd, hy, q⟩ := hh
  obtain ⟨as, r1⟩ := Dp.reads I d x v hd rx
  rcases hy with ⟨hl, sl⟩ | ⟨hl, sl⟩
  · obtain ⟨bs, r2⟩ := Dp.reads I (.list ds) y u hl ry
    cases no with
    | false => exact SeqAt.in_list_reads r2 r1 (SeqAt.canLay_of_shaped sl) (SeqAt.canLay_of_shaped sd) (PyProof.Rows.room_in_shaped sd hu) ⟨.bl _, H, I, rfl, q⟩
    | true => exact SeqAt.notIn_list_reads r2 r1 (SeqAt.canLay_of_shaped sl) (SeqAt.canLay_of_shaped sd) (PyProof.Rows.room_in_shaped sd hu) ⟨.bl _, H, I, rfl, q⟩
  · obtain ⟨bs, r2⟩ := Dp.reads I (.tuple ds) y u hl ry
    cases no with
    | false => exact SeqAt.in_tuple_reads r2 r1 (SeqAt.canLay_of_shaped sl) (SeqAt.canLay_of_shaped sd) (PyProof.Rows.room_in_shaped sd hu) ⟨.bl _, H, I, rfl, q⟩
    | true => exact SeqAt.notIn_tuple_reads r2 r1 (SeqAt.canLay_of_shaped sl) (SeqAt.canLay_of_shaped sd) (PyProof.Rows.room_in_shaped sd hu) ⟨.bl _, H, I, rfl, q⟩
theorem is_bl (pins : List (Addr × Obj)) (s : Shared) (σ : L2.St) (H : Hp) (v u : Value) (Q : VK) (I : Inv X pins σ H s) {a b : Bool} (rx : RelV (.bl a) v) (ry : RelV (.bl b) u) (no : Bool) (c : CmpOp) (hc : c = if no = true then .IsNot else .Is) (q : Q (.bl (if no = true then !(a == b) else (a == b))) H) :
    wpAny (model X.prog X.w) X.A (compareOp c v u) (EP X pins σ Q) X.xe s := by
  subst hc
  obtain rfl : v = Value.bool a := rx
  obtain rfl : u = Value.bool b := ry
  have e : (Value.bool a == Value.bool b) = (a == b) := by cases a <;> cases b <;> rfl
  cases no with
  | false => exact wpAny_is_plain rfl ⟨.bl (a == b), H, I, by rw [e]; rfl, q⟩
  | true => exact wpAny_isNot_plain rfl ⟨.bl (!(a == b)), H, I, by rw [e]; rfl, q⟩
theorem o_cmp (hu : X.A.units + 65 < cLine) (op : CmpOp) : OpR X (compareOp op) (r2 (FX X cv fn xs) (bcmp op)) := by
  intro pins s σ0 H x y v u Q I rx ry hh
  obtain ⟨W, σ, m, h, d1, d2, rh, ra, rb, p⟩ := hh
  have hu4 : X.A.units + 64 < cLine := by omega
  unfold bcmp at p
  split at p
  · obtain ⟨k, e, q⟩ := p.ofB rh
    unfold eqD at e
    split at e
    · cases ra; cases rb; cases e
      refine op_eq pins s σ0 H _ _ v u Q I rx ry ⟨rfl, ?_⟩
      rw [dec_int, ← Bool.beq_eq_decide_eq] at *
      exact q
    · cases ra; cases rb; cases e
      refine op_eq pins s σ0 H _ _ v u Q I rx ry ⟨rfl, ?_⟩
      rw [dec_str, ← Bool.beq_eq_decide_eq] at *
      exact q
    · cases ra; cases rb; cases e
      refine op_eq pins s σ0 H _ _ v u Q I rx ry ⟨rfl, ?_⟩
      rw [dec_bl, ← Bool.beq_eq_decide_eq] at *
      exact q
    · split at e
      · rename_i e1 e2
        split at e
        · rename_i hs
          cases e
          exact op_eqD hu4 pins s σ0 H _ _ v u Q I rx ry ⟨_, _, toPD_dp rh 12 _ _ _ e1 ra, toPD_dp rh 12 _ _ _ e2 rb, hs.1, hs.2, q⟩
        · cases e
      · cases e
  · obtain ⟨k, e, q⟩ := p.ofB rh
    unfold eqD at e
    split at e
    · cases ra; cases rb; cases e
      refine op_ne pins s σ0 H _ _ v u Q I rx ry ⟨rfl, ?_⟩
      rw [dec_int, ← Bool.beq_eq_decide_eq] at *
      exact q
    · cases ra; cases rb; cases e
      refine op_ne pins s σ0 H _ _ v u Q I rx ry ⟨rfl, ?_⟩
      rw [dec_str, ← Bool.beq_eq_decide_eq] at *
      exact q
    · cases ra; cases rb; cases e
      refine op_ne pins s σ0 H _ _ v u Q I rx ry ⟨rfl, ?_⟩
      rw [dec_bl, ← Bool.beq_eq_decide_eq] at *
      exact q
    · split at e
      · rename_i e1 e2
        split at e
        · rename_i hs
          cases e
          exact op_neD hu4 pins s σ0 H _ _ v u Q I rx ry ⟨_, _, toPD_dp rh 12 _ _ _ e1 ra, toPD_dp rh 12 _ _ _ e2 rb, hs.1, hs.2, q⟩
        · cases e
      · cases e
  · cases ra; cases rb; exact op_lt pins s σ0 H _ _ v u Q I rx ry ⟨_, _, rfl, rfl, p.here rh (.bl _)⟩
  · cases ra; cases rb; exact op_le pins s σ0 H _ _ v u Q I rx ry ⟨_, _, rfl, rfl, p.here rh (.bl _)⟩
  · cases ra; cases rb; exact op_gt pins s σ0 H _ _ v u Q I rx ry ⟨_, _, rfl, rfl, p.here rh (.bl _)⟩
  · cases ra; cases rb; exact op_ge pins s σ0 H _ _ v u Q I rx ry ⟨_, _, rfl, rfl, p.here rh (.bl _)⟩
  · cases rb
    refine op_isN pins s σ0 H _ _ v u Q I rx ry ⟨rfl, ?_⟩
    rw [isNon_rd ra]
    exact p.here rh (.bl _)
  · cases rb
    refine op_notN pins s σ0 H _ _ v u Q I rx ry ⟨rfl, ?_⟩
    rw [isNon_rd ra]
    exact p.here rh (.bl _)
  · cases ra; cases rb; exact op_in_str pins s σ0 H _ _ v u Q I rx ry ⟨_, _, rfl, rfl, p.here rh (.bl _)⟩
  · cases ra; cases rb; exact op_notin_str pins s σ0 H _ _ v u Q I rx ry ⟨_, _, rfl, rfl, p.here rh (.bl _)⟩
  · have rb0 := rb
    cases rb
    split at p
    · rename_i e
      obtain ⟨k, e2, q⟩ := p.ofB rh
      obtain ⟨_, vs, sq, r⟩ := rh.lst e
      rcases inA_of e2 with e2 | e2
      · obtain ⟨f1, f2, f3⟩ := inD_rd ra r e2
        exact op_in_seq pins s σ0 H _ _ v u Q I rx ry ⟨_, vs, rfl, .inl sq, f1, f2, by rw [if_neg Bool.false_ne_true, f3]; exact q⟩
      · exact op_inS hu false pins s σ0 H _ _ v u Q I rx ry (inS_rd rh ra rb0 e2 q)
    · exact p.elim
  · have rb0 := rb
    cases rb with
    | tup sq r =>
      obtain ⟨k, e2, q⟩ := p.ofB rh
      rcases inA_of e2 with e2 | e2
      · obtain ⟨f1, f2, f3⟩ := inD_rd ra r e2
        exact op_in_seq pins s σ0 H _ _ v u Q I rx ry ⟨_, _, rfl, .inr sq, f1, f2, by rw [if_neg Bool.false_ne_true, f3]; exact q⟩
      · exact op_inS hu false pins s σ0 H _ _ v u Q I rx ry (inS_rd rh ra rb0 e2 q)
  · have rb0 := rb
    cases rb
    split at p
    · rename_i e
      obtain ⟨k, e2, q⟩ := p.ofB rh
      obtain ⟨_, vs, sq, r⟩ := rh.lst e
      rcases inA_of e2 with e2 | e2
      · obtain ⟨f1, f2, f3⟩ := inD_rd ra r e2
        exact op_notIn_seq pins s σ0 H _ _ v u Q I rx ry ⟨_, vs, rfl, .inl sq, f1, f2, by rw [if_pos rfl, f3]; exact q⟩
      · exact op_inS hu true pins s σ0 H _ _ v u Q I rx ry (inS_rd rh ra rb0 e2 q)
    · exact p.elim
  · have rb0 := rb
    cases rb with
    | tup sq r =>
      obtain ⟨k, e2, q⟩ := p.ofB rh
      rcases inA_of e2 with e2 | e2
      · obtain ⟨f1, f2, f3⟩ := inD_rd ra r e2
        exact op_notIn_seq pins s σ0 H _ _ v u Q I rx ry ⟨_, _, rfl, .inr sq, f1, f2, by rw [if_pos rfl, f3]; exact q⟩
      · exact op_inS hu true pins s σ0 H _ _ v u Q I rx ry (inS_rd rh ra rb0 e2 q)
  · cases ra; cases rb
    exact is_bl pins s σ0 H v u Q I rx ry false _ rfl (p.here rh (.bl _))
  · cases ra; cases rb
    exact is_bl pins s σ0 H v u Q I rx ry true _ rfl (p.here rh (.bl _))
  · cases ra; cases rb; exact op_le_str pins s σ0 H _ _ v u Q I rx ry ⟨_, _, rfl, rfl, p.here rh (.bl _)⟩
  · cases ra; cases rb; exact op_lt_str pins s σ0 H _ _ v u Q I rx ry ⟨_, _, rfl, rfl, p.here rh (.bl _)⟩
  · exact p.elim
theorem s_cmp {op : CmpOp} (hu : X.A.units + 65 < cLine) (ha : PE X a (PE_ (FX X cv fn xs) W fa)) (hb : PE X b (PE_ (FX X cv fn xs) W fb)) (hm : behindInMarks op b = false) : PE X (.Compare a [op] [b] pos) (PE_ (FX X cv fn xs) W (dCmp op fa fb)) :=
  peImp (pe_cmpR (o_cmp hu op) ha hb hm) fun _ _ _ q => bind2 q
theorem st_cmp {op : CmpOp} (hu : X.A.units + 65 < cLine) (ha : PE X a (PE_ (FX X cv fn xs) W fa)) (hb : PE X b (PE_ (FX X cv fn xs) W fb)) (hm : behindInMarks op b = false) : PT X (.Compare a [op] [b] pos) (PT_ (FX X cv fn xs) W (tB (dCmp op fa fb))) := by
  refine ptImp (pt_cmpR (o_cmp (cv := cv) (fn := fn) (xs := xs) hu op) ha hb hm) fun σ H Q q => ?_
  obtain ⟨m, e, h, rh, re, p⟩ := q
  refine bind2 (T := FX X cv fn xs) (W := W) ⟨m, e, h, rh, re, p.bind fun a h1 m1 H1 x g1 rh1 ra p1 => ?_⟩
  cases a with
  | bl k =>
    cases ra
    exact ⟨k, rfl, p1.here rh1 rfl⟩
  | _ => exact p1.elim
theorem blOf_bind {T : Fx} {W : WX} {α β : Type} {RA : (Nat → Addr) → Nat → Hp → α → β → Prop} {σ : L2.St} {m : Nat → Addr} {h : Hh} {H : Hp} {d : D} {v : V} {k : Bool → Hh → R α} {Q : β → Hp → Prop} (p : PO T W RA σ m h H (blOf d h k) Q) (r : RD T.K m h.length H d v) :
    ∃ b, d = .bl b ∧ v = .bl b ∧ PO T W RA σ m h H (k b h) Q := by
  cases d with
  | bl b => cases r; exact ⟨b, rfl, rfl, p⟩
  | _ => exact p.elim
theorem chain_rd {op op' : CmpOp} {σ : L2.St} {H : Hp} {Q : VK} (q : PE_ (FX X cv fn xs) W (dCh op op' fa fb fc) σ H Q) :
    tChain (r2 (FX X cv fn xs) (bcmp op)) (r2 (FX X cv fn xs) (bcmp op')) (PE_ (FX X cv fn xs) W fa) (PE_ (FX X cv fn xs) W fb) (PE_ (FX X cv fn xs) W fc) σ H Q := by
  obtain ⟨m, e, h, rh, re, p⟩ := q
  refine ⟨m, e, h, rh, re, p.bind fun x h1 m1 H1 xv g1 rh1 rx p1 => ⟨m1, e, h1, rh1, g1.re re, p1.bind fun y h2 m2 H2 yv g2 rh2 ry p2 => ?_⟩⟩
  refine ⟨W, σ, m2, h2, x, y, rh2, g2.rd rx, ry, p2.bind fun z h3 m3 H3 zv g3 rh3 rz p3 => ?_⟩
  obtain ⟨k, _, ez, p3⟩ := blOf_bind p3 rz
  refine ⟨k, ez, ?_⟩
  cases k with
  | true =>
    rw [if_pos rfl] at p3 ⊢
    exact ⟨m3, e, h3, rh3, g3.re (g2.re (g1.re re)), p3.bind fun w h4 m4 H4 wv g4 rh4 rw' p4 => ⟨W, σ, m4, h4, y, w, rh4, g4.rd (g3.rd ry), rw', p4⟩⟩
  | false =>
    rw [if_neg Bool.false_ne_true] at p3 ⊢
    exact p3.here rh3 (.bl _)
theorem s_chain {op op' : CmpOp} (hu : X.A.units + 65 < cLine) (ha : PE X a (PE_ (FX X cv fn xs) W fa)) (hb : PE X b (PE_ (FX X cv fn xs) W fb)) (hc : PE X c (PE_ (FX X cv fn xs) W fc))
    (hm : lastMarks [op, op'] [b, c] = false) : PE X (.Compare a [op, op'] [b, c] pos) (PE_ (FX X cv fn xs) W (dCh op op' fa fb fc)) :=
  peImp (pe_chain (o_cmp (cv := cv) (fn := fn) (xs := xs) hu op) (o_cmp (cv := cv) (fn := fn) (xs := xs) hu op') ha hb hc hm) fun σ H Q q => chain_rd q
theorem tB_rd {f : ED} {σ : L2.St} {H : Hp} {Q : Bool → Hp → Prop} (q : PT_ (FX X cv fn xs) W (tB f) σ H Q) : PE_ (FX X cv fn xs) W f σ H fun x H1 => ∃ k, x = .bl k ∧ Q k H1 := by
  obtain ⟨m, e, h, rh, re, p⟩ := q
  refine ⟨m, e, h, rh, re, p.bind fun a h1 m1 H1 x g1 rh1 ra p1 => ?_⟩
  cases a with
  | bl k =>
    cases ra
    exact ⟨k, rfl, PO.here p1 rh1 rfl⟩
  | _ => exact p1.elim
theorem st_chain {op op' : CmpOp} (hu : X.A.units + 65 < cLine) (ha : PE X a (PE_ (FX X cv fn xs) W fa)) (hb : PE X b (PE_ (FX X cv fn xs) W fb)) (hc : PE X c (PE_ (FX X cv fn xs) W fc))
    (hm : lastMarks [op, op'] [b, c] = false) : PT X (.Compare a [op, op'] [b, c] pos) (PT_ (FX X cv fn xs) W (tB (dCh op op' fa fb fc))) :=
  ptImp (pt_chain (o_cmp (cv := cv) (fn := fn) (xs := xs) hu op) (o_cmp (cv := cv) (fn := fn) (xs := xs) hu op') ha hb hc hm) fun σ H Q q => chain_rd (tB_rd q)
theorem s_if {t : TD} (hc : PT X c (PT_ (FX X cv fn xs) W t)) (ha : PE X a (PE_ (FX X cv fn xs) W fa)) (hb : PE X b (PE_ (FX X cv fn xs) W fb)) : PE X (.IfExp c a b pos) (PE_ (FX X cv fn xs) W (dIf t fa fb)) :=
  peImp (pe_ifExp hc ha hb) fun σ H Q q => by
    obtain ⟨m, e, h, rh, re, p⟩ := q
    refine ⟨m, e, h, rh, re, p.bind fun x h1 m1 H1 xv g1 rh1 rx p1 => ?_⟩
    subst rx
    cases x with
    | true => rw [if_pos rfl] at p1 ⊢; exact ⟨m1, e, h1, rh1, g1.re re, p1⟩
    | false => rw [if_neg Bool.false_ne_true] at p1 ⊢; exact ⟨m1, e, h1, rh1, g1.re re, p1⟩
theorem o_ix : IxR X (r2 (FX X cv fn xs) ixD) := by
  intro value slice pins s σ0 H x y v u Q I rx ry hh hs
  obtain ⟨W, σ, m, h, d1, d2, rh, ra, rb, p⟩ := hh
  unfold ixD at p
  split at p
  · cases ra with
    | tup sq r =>
      cases rb
      split at p
      · rename_i d e
        obtain ⟨w, e1, rw'⟩ := atI_rd r e
        exact ix_tup value slice pins s σ0 H _ _ v u Q I rx ry ⟨_, _, _, w, rfl, rfl, sq, e1, p.here rh rw'⟩ hs
      · exact p.elim
  · cases ra
    cases rb
    split at p
    · rename_i e0
      split at p
      · rename_i d e
        obtain ⟨_, vs, sq, r⟩ := rh.lst e0
        obtain ⟨w, e1, rw'⟩ := atI_rd r e
        exact ix_list value slice pins s σ0 H _ _ v u Q I rx ry ⟨_, _, _, w, rfl, rfl, sq, e1, p.here rh rw'⟩ hs
      · exact p.elim
    · exact p.elim
  · cases ra
    cases rb
    split at p
    · rename_i hz
      split at p
      · rename_i d e
        exact ix_str value slice pins s σ0 H _ _ v u Q I rx ry ⟨_, _, _, rfl, rfl, by rw [sizeLine_eq]; exact hz, e, p.here rh (.str _)⟩ hs
      · exact p.elim
    · exact p.elim
  · exact p.elim
theorem s_ix (ha : PE X a (PE_ (FX X cv fn xs) W fa)) (hb : PE X b (PE_ (FX X cv fn xs) W fb)) (hs : PlainIx b) : PE X (.Subscript a b pos) (PE_ (FX X cv fn xs) W (dIx fa fb)) :=
  peImp (pe_ix o_ix ha hb hs) fun _ _ _ q => bind2 q
theorem s_aN : PA X [] (PA_ (FX X cv fn xs) W aN) := paImp pa_nil fun σ H Q q => by
  obtain ⟨m, e, h, rh, re, p⟩ := q
  exact p.here rh .nil
theorem s_aC {es : List Expr} {r : AD} (ha : PE X a (PE_ (FX X cv fn xs) W fa)) (hr : PA X es (PA_ (FX X cv fn xs) W r)) (hs : starEach (a :: es) X.env = (false, eval a X.env) :: starEach es X.env) : PA X (a :: es) (PA_ (FX X cv fn xs) W (aC fa r)) :=
  paImp (pa_cons ha hr hs) fun σ H Q q => by
    obtain ⟨m, e, h, rh, re, p⟩ := q
    exact ⟨m, e, h, rh, re, p.bind fun x h1 m1 H1 xv g1 rh1 rx p1 => ⟨m1, e, h1, rh1, g1.re re, p1.bind fun xs h2 m2 H2 xsv g2 rh2 rxs p2 => p2.here rh2 (.cons (g2.rd rx) rxs)⟩⟩
theorem s_tup {es : List Expr} {r : AD} {k : Nat} (hr : PA X es (PA_ (FX X cv fn xs) W r)) : PE X (.Tuple es k pos) (PE_ (FX X cv fn xs) W (dTup r)) :=
  peImp (pe_tup hr) fun σ H Q q => by
    obtain ⟨m, e, h, rh, re, p⟩ := q
    refine ⟨m, e, h, rh, re, p.bind fun xs h1 m1 H1 vs g1 rh1 rx p1 => ?_⟩
    split at p1
    · rename_i hz
      exact ⟨by rw [sizeLine_eq, ← rx.length]; exact hz, p1.newT rh1 rx⟩
    · exact p1.elim
theorem s_lst {es : List Expr} {r : AD} (hr : PA X es (PA_ (FX X cv fn xs) W r)) : PE X (.List es pos) (PE_ (FX X cv fn xs) W (dLst r)) :=
  peImp (pe_lst hr) fun σ H Q q => by
    obtain ⟨m, e, h, rh, re, p⟩ := q
    refine ⟨m, e, h, rh, re, p.bind fun xs h1 m1 H1 vs g1 rh1 rx p1 => ?_⟩
    split at p1
    · rename_i hz
      exact ⟨by rw [sizeLine_eq, ← rx.length]; exact hz, p1.new rh1 rx⟩
    · exact p1.elim
theorem bindN {T : Fx} {fs : AD} {g : FD} {σ : L2.St} {H : Hp} {Q : VK} (q : PE_ T W (dCall g fs []) σ H Q) : PA_ T W fs σ H fun xs H1 => rN T g xs H1 Q := by
  obtain ⟨m, e, h, rh, re, p⟩ := q
  exact ⟨m, e, h, rh, re, p.bind fun ds h1 m1 H1 vs g1 rh1 rx p1 => ⟨W, σ, m1, h1, ds, rh1, rx, by rw [List.append_nil] at p1; exact p1⟩⟩
theorem rds1 {K : PySem.W.Frag} {m : Nat → Addr} {N : Nat} {H : Hp} {d : D} {vs : List V} (r : RDs K m N H [d] vs) : ∃ v, vs = [v] ∧ RD K m N H d v := by
  cases r with
  | cons a b => cases b; exact ⟨_, rfl, a⟩
theorem rds2 {K : PySem.W.Frag} {m : Nat → Addr} {N : Nat} {H : Hp} {d d' : D} {vs : List V} (r : RDs K m N H [d, d'] vs) : ∃ v v', vs = [v, v'] ∧ RD K m N H d v ∧ RD K m N H d' v' := by
  cases r with
  | cons a b => cases b with
    | cons a' b' => cases b'; exact ⟨_, _, rfl, a, a'⟩
theorem c_len : CallR X (.builtin "len") (rN (FX X cv fn xs) fLen) := by
  intro pins s σ0 H xs us Q I r hh
  obtain ⟨W, σ, m, h, ds, rh, rx, p⟩ := hh
  unfold fLen at p
  split at p
  · obtain ⟨v, rfl, a⟩ := rds1 rx
    cases a with
    | tup sq q =>
      refine call_len pins s σ0 H _ us Q I r ⟨_, _, rfl, .inr ⟨_, sq, rfl⟩, ?_⟩
      rw [← q.length]
      exact p.here rh (.int _)
  · obtain ⟨v, rfl, a⟩ := rds1 rx
    cases a
    split at p
    · rename_i e
      obtain ⟨_, vs, sq, q⟩ := rh.lst e
      refine call_len pins s σ0 H _ us Q I r ⟨_, _, rfl, .inl ⟨_, sq, rfl⟩, ?_⟩
      rw [← q.length]
      exact p.here rh (.int _)
    · exact p.elim
  · obtain ⟨v, rfl, a⟩ := rds1 rx
    cases a
    split at p
    · rename_i hz
      exact call_len pins s σ0 H _ us Q I r ⟨_, _, rfl, ⟨by rw [sizeLine_eq]; exact hz, rfl⟩, p.here rh (.int _)⟩
    · exact p.elim
  · exact p.elim
theorem c_abs : CallR X (.builtin "abs") (rN (FX X cv fn xs) fAbs) := by
  intro pins s σ0 H xs us Q I r hh
  obtain ⟨W, σ, m, h, ds, rh, rx, p⟩ := hh
  unfold fAbs at p
  split at p
  · obtain ⟨v, rfl, a⟩ := rds1 rx
    cases a
    exact call_abs pins s σ0 H _ us Q I r ⟨_, rfl, p.here rh (.int _)⟩
  · exact p.elim
theorem c_int : CallR X (.type "int") (rN (FX X cv fn xs) fInt) := by
  intro pins s σ0 H xs us Q I r hh
  obtain ⟨W, σ, m, h, ds, rh, rx, p⟩ := hh
  unfold fInt at p
  split at p
  · obtain ⟨v, rfl, a⟩ := rds1 rx
    cases a
    split at p
    · rename_i n e
      split at p
      · rename_i hz
        exact call_int_str pins s σ0 H _ us Q I r ⟨_, n, rfl, e, hz, p.here rh (.int _)⟩
      · exact p.elim
    · exact p.elim
  · obtain ⟨v, rfl, a⟩ := rds1 rx
    cases a
    exact call_int1 pins s σ0 H _ us Q I r (.inl ⟨_, rfl, p.here rh (.int _)⟩)
  · obtain ⟨v, rfl, a⟩ := rds1 rx
    cases a
    exact call_int1 pins s σ0 H _ us Q I r (.inr ⟨_, rfl, p.here rh (.int _)⟩)
  · exact p.elim
theorem c_str : CallR X (.type "str") (rN (FX X cv fn xs) fStr) := by
  intro pins s σ0 H xs us Q I r hh
  obtain ⟨W, σ, m, h, ds, rh, rx, p⟩ := hh
  unfold fStr at p
  split at p
  · obtain ⟨v, rfl, a⟩ := rds1 rx
    cases a
    split at p
    · rename_i hz
      exact call_str_int pins s σ0 H _ us Q I r ⟨_, rfl, hz, p.here rh (.str _)⟩
    · exact p.elim
  · exact p.elim
theorem c_strL (hc : X.calm = true) (hdg : X.base.NoDigits) : CallR X (.type "str") (rN (FX X cv fn xs) fStrL) := by
  intro pins s σ0 H ys us Q I r hh
  obtain ⟨W, σ, m, h, ds, rh, rx, p⟩ := hh
  unfold fStrL at p
  split at p
  · obtain ⟨v, rfl, a⟩ := rds1 rx
    cases a
    split at p
    · rename_i hz
      obtain ⟨u, rfl, t, rfl⟩ := vals1 r
      exact PyProof.Rows.str_of_int_or (I.ok.hd hc) (hdg.keeps I.bk) (fun _ => ⟨.str _, H, I.tok _, ⟨_, rfl⟩, p.here rh (.str _)⟩) fun z => absurd hz (Nat.not_lt.mpr z)
    · exact p.elim
  · exact p.elim
theorem c_gcd : CallR X (.builtin "math.gcd") (rN (FX X cv fn xs) fGcd) := by
  intro pins s σ0 H xs us Q I r hh
  obtain ⟨W, σ, m, h, ds, rh, rx, p⟩ := hh
  unfold fGcd at p
  split at p
  · obtain ⟨v, v', rfl, a, a'⟩ := rds2 rx
    cases a
    cases a'
    exact cr_gcd pins s σ0 H _ us Q I r ⟨_, _, rfl, p.here rh (.int _)⟩
  · exact p.elim
theorem cr_range1 : CallR X (.type "range") (fun vs H Q => ∃ j, vs = [V.int j] ∧ ∀ p, H p = none → Q (.ref p) (upd H p (.rng 0 j))) := by
  intro pins s σ H vs us Q I r h
  obtain ⟨j, rfl, q⟩ := h
  obtain ⟨u1, rfl, rj⟩ := vals1 r
  obtain ⟨t, rfl⟩ := rj
  refine call_range_1 ⟨.ref s.heap.objs.size, upd H s.heap.objs.size (.rng 0 j), I.laid (t' := s.toks + 1 + 1) (fun b o e => Heap.get?_push_of_some _ e) (Nat.le_refl _) ?_, rfl, q _ (I.hok.fresh (Nat.le_refl _))⟩
  exact ⟨_, _, _, Heap.get?_push_size _ rfl⟩
theorem PO.newR {T : Fx} {W : WX} {σ : L2.St} {m : Nat → Addr} {h : Hh} {H : Hp} {lo hi : Int} {Q : VK} (p : PO T W (rdR T) σ m h H (.ok (.rg lo hi) h) Q) (rh : RH T m h H) :
    ∀ q, H q = none → Q (.ref q) (upd H q (.rng lo hi)) := fun q hq => by
  obtain ⟨g, rh'⟩ := rh.lay (u := .rng lo hi) hq
  exact p m _ _ g rh' (.rg upd_same)
theorem c_rng1 : CallR X (.type "range") (rN (FX X cv fn xs) fRng1) := by
  intro pins s σ0 H xs us Q I r hh
  obtain ⟨W, σ, m, h, ds, rh, rx, p⟩ := hh
  unfold fRng1 at p
  split at p
  · obtain ⟨v, rfl, a⟩ := rds1 rx
    cases a
    exact cr_range1 pins s σ0 H _ us Q I r ⟨_, rfl, p.newR rh⟩
  · exact p.elim
theorem c_list : CallR X (.type "list") (rN (FX X cv fn xs) fList) := by
  intro pins s σ0 H xs us Q I r hh
  obtain ⟨W, σ, m, h, ds, rh, rx, p⟩ := hh
  unfold fList at p
  split at p
  · obtain ⟨v, rfl, a⟩ := rds1 rx
    cases a
    split at p
    · rename_i e
      obtain ⟨_, vs, sq, q⟩ := rh.lst e
      exact call_list_of pins s σ0 H _ us Q I r ⟨_, _, rfl, .inl sq, p.new rh q⟩
    · exact p.elim
  · obtain ⟨v, rfl, a⟩ := rds1 rx
    cases a with
    | tup sq q => exact call_list_of pins s σ0 H _ us Q I r ⟨_, _, rfl, .inr sq, p.new rh q⟩
  · exact p.elim
theorem c_tuple : CallR X (.type "tuple") (rN (FX X cv fn xs) fTuple) := by
  intro pins s σ0 H xs us Q I r hh
  obtain ⟨W, σ, m, h, ds, rh, rx, p⟩ := hh
  unfold fTuple at p
  split at p
  · obtain ⟨v, rfl, a⟩ := rds1 rx
    cases a
    split at p
    · rename_i e
      obtain ⟨_, vs, sq, q⟩ := rh.lst e
      exact call_tuple_of pins s σ0 H _ us Q I r ⟨_, _, rfl, .inl ⟨sq, p.newT rh q⟩⟩
    · exact p.elim
  · obtain ⟨v, rfl, a⟩ := rds1 rx
    cases a with
    | tup sq q => exact call_tuple_of pins s σ0 H _ us Q I r ⟨_, _, rfl, .inr ⟨sq, p.here rh (.tup sq q)⟩⟩
  · exact p.elim
theorem intsOf_rd {T : Fx} {m : Nat → Addr} {h : Hh} {H : Hp} : ∀ {ds : List D} {vs : List V} {ns : List Int}, RDs T.K m h.length H ds vs → intsOf ds = some ns → vs = ns.map V.int
  | _, _, _, .nil, e => by cases e; rfl
  | d :: ds, _, ns, .cons a b, e => by
    cases d with
    | int i =>
      obtain ⟨ms, e1, rfl⟩ := Option.map_eq_some_iff.mp (show (intsOf ds).map (i :: ·) = some ns from e)
      cases a
      rw [intsOf_rd b e1]
      rfl
    | _ => cases e
theorem blsOf_rd {T : Fx} {m : Nat → Addr} {h : Hh} {H : Hp} : ∀ {ds : List D} {vs : List V} {ns : List Bool}, RDs T.K m h.length H ds vs → blsOf ds = some ns → vs = ns.map V.bl
  | _, _, _, .nil, e => by cases e; rfl
  | d :: ds, _, ns, .cons a b, e => by
    cases d with
    | bl i =>
      obtain ⟨ms, e1, rfl⟩ := Option.map_eq_some_iff.mp (show (blsOf ds).map (i :: ·) = some ns from e)
      cases a
      rw [blsOf_rd b e1]
      rfl
    | _ => cases e
theorem c_sum (hc : X.calm = true) : CallR X (.builtin "sum") (rN (FX X cv fn xs) fSum) := by
  intro pins s σ0 H xs us Q I r hh
  obtain ⟨W, σ, m, h, ds, rh, rx, p⟩ := hh
  unfold fSum at p
  split at p
  · obtain ⟨v, rfl, a⟩ := rds1 rx
    cases a
    split at p
    · rename_i ns e
      obtain ⟨es, e1, e2⟩ := Option.bind_eq_some_iff.mp e
      obtain ⟨_, vs, sq, q⟩ := rh.lst e1
      have z := intsOf_rd q e2
      subst z
      exact cr_sum hc pins s σ0 H _ us Q I r ⟨_, _, rfl, sq, p.here rh (.int _)⟩
    · exact p.elim
  · exact p.elim
theorem c_all (hc : X.calm = true) : CallR X (.builtin "all") (rN (FX X cv fn xs) fAll) := by
  intro pins s σ0 H xs us Q I r hh
  obtain ⟨W, σ, m, h, ds, rh, rx, p⟩ := hh
  unfold fAll at p
  split at p
  · obtain ⟨v, rfl, a⟩ := rds1 rx
    cases a
    split at p
    · rename_i ns e
      obtain ⟨es, e1, e2⟩ := Option.bind_eq_some_iff.mp e
      obtain ⟨_, vs, sq, q⟩ := rh.lst e1
      have z := blsOf_rd q e2
      subst z
      exact cr_all hc pins s σ0 H _ us Q I r ⟨_, _, rfl, sq, p.here rh (.bl _)⟩
    · exact p.elim
  · exact p.elim
theorem c_any (hc : X.calm = true) : CallR X (.builtin "any") (rN (FX X cv fn xs) fAny) := by
  intro pins s σ0 H xs us Q I r hh
  obtain ⟨W, σ, m, h, ds, rh, rx, p⟩ := hh
  unfold fAny at p
  split at p
  · obtain ⟨v, rfl, a⟩ := rds1 rx
    cases a
    split at p
    · rename_i ns e
      obtain ⟨es, e1, e2⟩ := Option.bind_eq_some_iff.mp e
      obtain ⟨_, vs, sq, q⟩ := rh.lst e1
      have z := blsOf_rd q e2
      subst z
      exact cr_any hc pins s σ0 H _ us Q I r ⟨_, _, rfl, sq, p.here rh (.bl _)⟩
    · exact p.elim
  · exact p.elim
theorem c_max (hc : X.calm = true) : CallR X (.builtin "max") (rN (FX X cv fn xs) fMax) := by
  intro pins s σ0 H xs us Q I r hh
  obtain ⟨W, σ, m, h, ds, rh, rx, p⟩ := hh
  unfold fMax at p
  split at p
  · obtain ⟨v, v', rfl, a, a'⟩ := rds2 rx
    cases a
    cases a'
    exact call_max2 hc pins s σ0 H _ us Q I r ⟨_, _, rfl, p.here rh (.int _)⟩
  · exact p.elim
theorem c_min (hc : X.calm = true) : CallR X (.builtin "min") (rN (FX X cv fn xs) fMin) := by
  intro pins s σ0 H xs us Q I r hh
  obtain ⟨W, σ, m, h, ds, rh, rx, p⟩ := hh
  unfold fMin at p
  split at p
  · obtain ⟨v, v', rfl, a, a'⟩ := rds2 rx
    cases a
    cases a'
    exact call_min2 hc pins s σ0 H _ us Q I r ⟨_, _, rfl, p.here rh (.int _)⟩
  · exact p.elim
theorem m_append : MtR X "list.append" (rM (FX X cv fn xs) mAppend) := by
  intro pins s σ0 H x xs v us Q I rx rs hh
  obtain ⟨W, σ, m, h, d, ds, rh, rd, rds, p⟩ := hh
  unfold mAppend at p
  split at p
  · cases rd
    obtain ⟨y, rfl, ry⟩ := rds1 rds
    split at p
    · rename_i e
      split at p
      · rename_i hz
        obtain ⟨hl, vs, q1, q2⟩ := rh.mut e
        obtain ⟨g, rh'⟩ := rh.putL e q1 (q2.snoc ry)
        exact mt_append pins s σ0 H _ _ v us Q I rx rs ⟨_, _, _, rfl, rfl, q1, by rw [sizeLine_eq, ← q2.length]; exact hz, p m _ _ g rh' .non⟩
      · exact p.elim
    · exact p.elim
  · exact p.elim
theorem m_pop : MtR X "list.pop" (rM (FX X cv fn xs) mPop) := by
  intro pins s σ0 H x xs v us Q I rx rs hh
  obtain ⟨W, σ, m, h, d, ds, rh, rd, rds, p⟩ := hh
  unfold mPop at p
  split at p
  · cases rd
    cases rds
    split at p
    · rename_i e
      split at p
      · rename_i y ey
        obtain ⟨hl, vs, q1, q2⟩ := rh.mut e
        obtain ⟨w, ew, rw'⟩ := q2.get ey
        rw [q2.length] at ew
        obtain ⟨g, rh'⟩ := rh.putL e q1 q2.dropLast
        exact mt_pop pins s σ0 H _ _ v us Q I rx rs ⟨_, _, _, rfl, rfl, q1, ew, p m _ _ g rh' (g.rd rw')⟩
      · exact p.elim
    · exact p.elim
  · exact p.elim
end
end Mn
namespace Mn
open PySem L2
section
variable {X : Cx} {cv : Nat → Value} {fn : Nat → Str} {xs : Xs} {W : WX} {pos : Pos} {a b c : Expr} {fa fb fc : ED} {t u : TD}
theorem truth_rd {T : Fx} {m : Nat → Addr} {h : Hh} {H : Hp} {d : D} {v : V} {k : Bool} (rh : RH T m h H) (r : RD T.K m h.length H d v) (e : truth d h = some k) : TruV T.K v H k := by
  cases d with
  | non => cases r; cases e; rfl
  | bl b => cases r; cases e; rfl
  | int i => cases r; cases e; rfl
  | rg lo hi => cases e
  | ref n =>
    cases r
    obtain ⟨ds, e1, rfl⟩ := Option.map_eq_some_iff.mp (show (lstAt h n).map _ = _ from e)
    obtain ⟨_, vs, sq, q⟩ := rh.lst e1
    refine .inl ⟨vs, sq, ?_⟩
    cases q <;> rfl
  | str s => cases e
  | tup ds => cases e
theorem st_true (ha : PE X a (PE_ (FX X cv fn xs) W fa)) (he : ∀ whole, isTrue a X.env whole = (do let v ← whole; standAt a.pos; holding [v] (truthy v))) : PT X a (PT_ (FX X cv fn xs) W (tE fa)) :=
  ptImp (pt_truth ha he) fun σ H Q q => by
    obtain ⟨m, e, h, rh, re, p⟩ := q
    refine ⟨m, e, h, rh, re, p.bind fun x h1 m1 H1 xv g1 rh1 rx p1 => ?_⟩
    split at p1
    · rename_i k e
      exact ⟨k, truth_rd rh1 rx e, p1.here rh1 rfl⟩
    · exact p1.elim
theorem st_not (ha : PT X a (PT_ (FX X cv fn xs) W t)) : PT X (.UnaryOp .Not a pos) (PT_ (FX X cv fn xs) W (tNot t)) :=
  ptImp (pt_not ha) fun σ H Q q => by
    obtain ⟨m, e, h, rh, re, p⟩ := q
    refine ⟨m, e, h, rh, re, p.bind fun x h1 m1 H1 xv g1 rh1 rx p1 => ?_⟩
    subst rx
    exact p1.here rh1 rfl
theorem pwImp {X : Cx} {e : Expr} {t t' : TT} (h : PW X e t) (w : ∀ σ H Q, t' σ H Q → t σ H Q) : PW X e t' := ⟨fun wh pins s σ H Q I q => h.run wh pins s σ H Q I (w σ H Q q)⟩
theorem sw_and {rest : List Expr} (ha : PT X a (PT_ (FX X cv fn xs) W t)) (hb : PW X (.BoolOp .And (b :: rest) pos) (PT_ (FX X cv fn xs) W u)) : PW X (.BoolOp .And (a :: b :: rest) pos) (PT_ (FX X cv fn xs) W (tAnd t u)) :=
  pwImp (pw_and ha hb) fun σ H Q q => by
    obtain ⟨m, e, h, rh, re, p⟩ := q
    refine ⟨m, e, h, rh, re, p.bind fun x h1 m1 H1 xv g1 rh1 rx p1 => ?_⟩
    subst rx
    cases x with
    | true => rw [if_pos rfl] at p1 ⊢; exact ⟨m1, e, h1, rh1, g1.re re, p1⟩
    | false => rw [if_neg Bool.false_ne_true] at p1 ⊢; exact p1.here rh1 rfl
theorem sw_or {rest : List Expr} (ha : PT X a (PT_ (FX X cv fn xs) W t)) (hb : PW X (.BoolOp .Or (b :: rest) pos) (PT_ (FX X cv fn xs) W u)) : PW X (.BoolOp .Or (a :: b :: rest) pos) (PT_ (FX X cv fn xs) W (tOr t u)) :=
  pwImp (pw_or ha hb) fun σ H Q q => by
    obtain ⟨m, e, h, rh, re, p⟩ := q
    refine ⟨m, e, h, rh, re, p.bind fun x h1 m1 H1 xv g1 rh1 rx p1 => ?_⟩
    subst rx
    cases x with
    | true => rw [if_pos rfl] at p1 ⊢; exact p1.here rh1 rfl
    | false => rw [if_neg Bool.false_ne_true] at p1 ⊢; exact ⟨m1, e, h1, rh1, g1.re re, p1⟩
def Ty.nm : Ty → String
  | .int => "int" | .bool => "bool" | .str => "str" | .tuple => "tuple" | .list => "list"
theorem ty_rd {T : Fx} {m : Nat → Addr} {h : Hh} {H : Hp} {d : D} {v : V} {t : Ty} {k : Bool} (rh : RH T m h H) (r : RD T.K m h.length H d v) (e : isTy t d h = some k) :
    ∃ ty, TyX T.K H v ty ∧ PySem.W.kitOne T.K ty (.type t.nm) = some k := by
  cases d with
  | non => cases r; cases e; exact ⟨_, .base .non, kit_ty (by cases t <;> decide +kernel)⟩
  | bl b => cases r; cases e; exact ⟨_, .base (.bl _), kit_ty (by cases t <;> decide +kernel)⟩
  | int b => cases r; cases e; exact ⟨_, .base (.int _), kit_ty (by cases t <;> decide +kernel)⟩
  | str b => cases r; cases e; exact ⟨_, .base (.str _), kit_ty (by cases t <;> decide +kernel)⟩
  | tup ds =>
    cases e
    refine ⟨.type "tuple", ?_, kit_ty (by cases t <;> decide +kernel)⟩
    cases r with
    | tup sq q =>
      rcases sq with (sq | ⟨o, sq⟩) | ⟨o, its, n, h1, h2, _⟩
      · exact .base (.tup sq)
      · exact .fTuple sq
      · exact .kTuple h1 h2
  | rg lo hi => cases e
  | ref n =>
    cases r
    obtain ⟨ds, e1, rfl⟩ := Option.map_eq_some_iff.mp (show (lstAt h n).map _ = _ from e)
    refine ⟨.type "list", ?_, kit_ty (by cases t <;> decide +kernel)⟩
    unfold lstAt at e1
    cases q : h[n]? with
    | none => rw [q] at e1; cases e1
    | some o =>
      rw [q] at e1
      have ro := rh.obj n o q
      cases o with
      | lst xs =>
        obtain ⟨vs, q1, _⟩ := ro
        exact .base (.lst q1)
      | frz xs =>
        obtain ⟨vs, q1, _⟩ := ro
        rcases q1 with ⟨ob, q1⟩ | ⟨ob, its, k, q1, q2, _⟩
        · exact .base (.frz q1)
        · exact .kList q1 q2
      | ins c fs => cases e1
theorem s_is {tn : String} {ty : Ty} {p : Pos} (ht : ty.nm = tn) (hg : Gl X "isinstance") (hm : X.mg "isinstance" = none) (hb : PE X b (tC (.ty tn))) (ha : PE X a (PE_ (FX X cv fn xs) W fa))
    (hs1 : starEach [a, b] X.env = [(false, eval a X.env), (false, eval b X.env)]) (hs2 : starEach [b] X.env = [(false, eval b X.env)]) (hpl : (backTo pos (starEach [b] X.env)).any (·.1) = false) :
    PE X (.Call (.Name "isinstance" p) [a, b] [] pos) (PE_ (FX X cv fn xs) W (dIs ty fa)) := by
  subst ht
  have hA : PA X [a, b] _ := pa_cons ha (pa_cons hb pa_nil (by rw [hs2]; rfl)) (by rw [hs1, hs2])
  refine peImp (pe_callB call_isi hg hm (by rfl) hA (by decide) (by decide) (by rw [hs1, hs2]) hpl) fun σ H Q q => ?_
  obtain ⟨m, e, h, rh, re, p⟩ := q
  refine ⟨m, e, h, rh, re, p.bind fun x h1 m1 H1 xv g1 rh1 rx p1 => ?_⟩
  obtain ⟨k, e1, q1⟩ := p1.ofB rh1
  obtain ⟨tv, h2, h3⟩ := ty_rd rh1 rx e1
  exact ⟨xv, _, tv, _, k, rfl, .ty _, h2, h3, q1⟩
def spT (T : Fx) (n : Nat) (g : FD) : Sp := fun vs H Q E => vs.length = n ∧ ∃ (m : Nat → Addr) (h : Hh) (ds : List D), RH T m h H ∧ RDs T.K m h.length H ds vs ∧ PO T (fun c d _ H => E c d H) (rdR T) [] m h H (g ds h) Q
theorem run_own {k : Nat} {f : Addr} {fd : FuncData} {ps : List Str} {sp : Sp} {ws : List Value} {dvs : List V} {E : XK} {pins : List (Addr × Obj)} {σ : L2.St} {H : Hp} {s : Shared} {Q : VK} {us : List Value} {vs : List V}
    (F : FnOk X.prog X.w X.K X.mg X.base (L2.CX X.prog X.w) k f fd ps sp) (hr : Room k X.A) (hb : Binds X.K fd ps ws) (hd : Vals dvs ws) (hx : PassesAt (L2.CX X.prog X.w) X σ E)
    (I : Inv X pins σ H s) (r : Vals vs us) (h : sp (vs ++ dvs) H Q E) : wpAny (model X.prog X.w) X.A (call (.ref f) us) (EP X pins σ Q) X.xe s := by
  have rr := Vals.append r hd
  have hl : (us ++ ws).length = ps.length := (rr.length.symm).trans (F.len _ _ _ _ h)
  have run := F.run X.A X.stack s H ⟨us, []⟩ (us ++ ws) (vs ++ dvs) Q E hr I.env0 (hb s us I.kIn hl) rr h
  refine wpAny_call (codeAny_mono run fun res s2 q => ?_)
  match res, q with
  | .error x, q => exact hx pins H s x s2 I q
  | .ok (.ret w), q => exact I.after q
  | .ok .next, q => exact q.elim
  | .ok .brk, q => exact q.elim
  | .ok .cont, q => exact q.elim
section
variable {k : Nat} {f : Addr} {fd : FuncData} {ps : List Str} {ws : List Value} {dvs : List V} {dds : List D} {g : FD} {x : Str} {p : Pos} {es : List Expr} {fs : AD}
theorem call_rd {σ : L2.St} {m : Nat → Addr} {h : Hh} {H : Hp} {ds : List D} {vs : List V} {Q : VK} (n : Nat) (hdd : ∀ m N H, RDs X.K m N H dds dvs) (hn : vs.length + dvs.length = n) (rh : RH (FX X cv fn xs) m h H) (r : RDs X.K m h.length H ds vs)
    (p : PO (FX X cv fn xs) W (rdR (FX X cv fn xs)) σ m h H (g (ds ++ dds) h) Q) : spT (FX X cv fn xs) n g (vs ++ dvs) H Q (WE W σ) := by
  refine ⟨by rw [List.length_append]; exact hn, m, h, ds ++ dds, rh, r.append (hdd _ _ _), ?_⟩
  cases q : g (ds ++ dds) h with
  | ok a h' => rw [q] at p; exact p
  | exc x h' => rw [q] at p; exact p
  | stuck => rw [q] at p; exact p
theorem s_call (F : FnOk X.prog X.w X.K X.mg X.base (L2.CX X.prog X.w) k f fd ps (spT (FX X cv fn xs) ps.length g)) (hr : Room k X.A) (hg : Gl X x) (hm : X.mg x = some (.ref f)) (hk : PySem.W.keepIn X.K (.ref f) = true) (hb : Binds X.K fd ps ws) (hd : Vals dvs ws)
    (hdd : ∀ m N H, RDs X.K m N H dds dvs) (hn : (a :: es).length + dvs.length = ps.length) (hlen : ∀ e h ds h', fs e h = .ok ds h' → ds.length = (a :: es).length) (tk : Takes X W) (ha : PA X (a :: es) (PA_ (FX X cv fn xs) W fs)) (hdb : (x == ("__debug__" : Str)) = false)
    (he : starEach (a :: es) X.env = (false, eval a X.env) :: starEach es X.env) (hpl : (backTo pos (starEach es X.env)).any (·.1) = false) :
    PE X (.Call (.Name x p) (a :: es) [] pos) (PE_ (FX X cv fn xs) W (dCall g fs dds)) := by
  refine ⟨fun pins s σ H Q I hq => ?_⟩
  obtain ⟨m, e, h, rh, re, p⟩ := hq
  refine wpAny_Call_Name_kw (ld_glob I hg hm ?_ hdb)
  refine PySem.W.callWith_K (h₀ := X.base) I.ok.mod.kin hk ?_ he hpl
  have p' : PA_ (FX X cv fn xs) W fs σ H fun vs H1 => spT (FX X cv fn xs) ps.length g (vs ++ dvs) H1 Q (WE W σ) := by
    cases q : fs e h with
    | ok ds h' =>
      refine ⟨m, e, h, rh, re, ?_⟩
      rw [q]
      have p2 : PO (FX X cv fn xs) W (rdR (FX X cv fn xs)) σ m h H (g (ds ++ dds) h') Q := by
        have p3 := p
        unfold dCall at p3
        rw [q] at p3
        exact p3
      intro m1 H1 vs g1 rh1 r1
      exact call_rd ps.length hdd (by rw [← r1.length, hlen _ _ _ _ q]; exact hn) rh1 r1 (p2.base g1)
    | exc x h' =>
      refine ⟨m, e, h, rh, re, ?_⟩
      rw [q]
      have p3 := p
      unfold dCall at p3
      rw [q] at p3
      exact p3
    | stuck =>
      have p3 := p
      unfold dCall at p3
      rw [q] at p3
      exact p3.elim
  refine thn (ha.run pos pins s σ H _ I p') fun us s1 ⟨vs, H1, I1, r, q⟩ => ⟨I1.kIn, ?_⟩
  exact run_own F hr hb hd (passAt tk σ) I1 r q
theorem s_call0 (F : FnOk X.prog X.w X.K X.mg X.base (L2.CX X.prog X.w) k f fd ps (spT (FX X cv fn xs) ps.length g)) (hr : Room k X.A) (hg : Gl X x) (hm : X.mg x = some (.ref f)) (hk : PySem.W.keepIn X.K (.ref f) = true) (hb : Binds X.K fd ps ws) (hd : Vals dvs ws)
    (hdd : ∀ m N H, RDs X.K m N H dds dvs) (hn : dvs.length = ps.length) (tk : Takes X W) (hdb : (x == ("__debug__" : Str)) = false) :
    PE X (.Call (.Name x p) [] [] pos) (PE_ (FX X cv fn xs) W (dCall g aN dds)) := by
  refine ⟨fun pins s σ H Q I hq => ?_⟩
  obtain ⟨m, e, h, rh, re, p⟩ := hq
  refine wpAny_Call_Name_kw (ld_glob I hg hm ?_ hdb)
  refine PySem.W.callWith_K0 I.kIn hk ?_
  refine run_own (us := []) (vs := []) F hr hb hd (passAt tk σ) I .nil ?_
  exact call_rd (ds := []) ps.length hdd (by rw [List.length_nil, Nat.zero_add]; exact hn) rh .nil p
end
def WalkD (T : Fx) (m0 : Nat → Addr) (N0 : Nat) (H0 : Hp) (sq : Sq) (J : It) : Prop := ∀ (m : Nat → Addr) (h : Hh) (H : Hp), RH T m h H → (∀ n, n < N0 → m n = m0 n) → N0 ≤ h.length → TK H0 H → srcOk sq.src h →
  (∀ i, i < sq.items.length → J.go i H) ∧ J.stop sq.items.length H ∧ ∀ i x H', i < sq.items.length → J.yld i H x H' → ∃ d, sq.items[i]? = some d ∧ Ge m h H m h H' ∧ RH T m h H' ∧ RD T.K m h.length H' d x
def PI_ (T : Fx) (W : WX) (f : ID) : TI := fun σ H R => ∃ m e h, RH T m h H ∧ RE T m h.length H e σ ∧ PO T W (WalkD T) σ m h H (f e h) R
theorem piImp {tg it : Expr} {t t' : TI} (h : PI X tg it t) (w : ∀ σ H Q, t' σ H Q → t σ H Q) : PI X tg it t' := ⟨fun pins s σ H Q I q => h.run pins s σ H Q I (w σ H Q q)⟩
theorem walk_l {T : Fx} {m : Nat → Addr} {h : Hh} {H : Hp} {n : Nat} {ds : List D} (rh : RH T m h H) (e : lstAt h n = some ds) : WalkD T m h.length H ⟨ds, [(n, ds)]⟩ (Itl T.K (m n)) := by
  intro m1 h1 H1 rh1 em hN tk ok
  have e1 : lstAt h1 n = some ds := ok (n, ds) (by simp)
  obtain ⟨hn, _⟩ := rh.lst e
  obtain ⟨_, vs, sq, q⟩ := rh1.lst e1
  rw [em n hn] at sq
  have w := walk_list (K := T.K) (a := m n) (xs := vs)
  have hl := q.length
  refine ⟨fun i hi => w.goes i H1 (by rw [← hl]; exact hi) sq, by rw [hl]; exact w.stops H1 sq, fun i x H' hi y => ?_⟩
  obtain ⟨rfl, hx⟩ := w.yields i H1 x H' (by rw [← hl]; exact hi) sq y
  obtain ⟨d, e2, r⟩ := q.getV hx
  exact ⟨d, e2, Ge.refl, rh1, r⟩
theorem walk_t {T : Fx} {m : Nat → Addr} {h : Hh} {H : Hp} {a : Addr} {ds : List D} {vs : List V} (sq : SqT T.K H a vs) (q : RDs T.K m h.length H ds vs) : WalkD T m h.length H ⟨ds, []⟩ (Itt T.K a) := by
  intro m1 h1 H1 rh1 em hN tk ok
  have sq1 := tk.seq sq
  have q1 := q.mono tk em hN
  have w := walk_tup (K := T.K) (a := a) (xs := vs)
  have hl := q.length
  refine ⟨fun i hi => w.goes i H1 (by rw [← hl]; exact hi) sq1, by rw [hl]; exact w.stops H1 sq1, fun i x H' hi y => ?_⟩
  obtain ⟨rfl, hx⟩ := w.yields i H1 x H' (by rw [← hl]; exact hi) sq1 y
  obtain ⟨d, e2, r⟩ := q1.getV hx
  exact ⟨d, e2, Ge.refl, rh1, r⟩
theorem walk_s {T : Fx} {m : Nat → Addr} {N : Nat} {H : Hp} {z : Str} : WalkD T m N H ⟨z.cps.toList.map fun c => D.str ⟨#[c]⟩, []⟩ (Its z) := by
  intro m1 h1 H1 rh1 em hN tk ok
  have hl : (z.cps.toList.map fun c => D.str ⟨#[c]⟩).length = z.cps.size := by rw [List.length_map, Array.length_toList]
  refine ⟨fun i hi => by rw [hl] at hi; exact hi, by rw [hl]; exact Nat.le_refl _, fun i x H' hi y => ?_⟩
  obtain ⟨rfl, c, hc, rfl⟩ := y
  exact ⟨.str ⟨#[c]⟩, by rw [List.getElem?_map, Array.getElem?_toList, hc]; rfl, Ge.refl, rh1, .str _⟩
theorem walk_r {T : Fx} {m : Nat → Addr} {N : Nat} {H : Hp} {lo : Int} {n : Nat} : WalkD T m N H ⟨rngD lo n, []⟩ (Itr lo n) := by
  intro m1 h1 H1 rh1 em hN tk ok
  have hl : (rngD lo n).length = n := by unfold rngD; rw [List.length_map, List.length_range]
  refine ⟨fun i hi => by rw [hl] at hi; exact hi, by rw [hl]; exact Nat.le_refl _, fun i x H' hi y => ?_⟩
  obtain ⟨rfl, rfl⟩ := y
  rw [hl] at hi
  exact ⟨.int (lo + (i : Int)), by unfold rngD; rw [List.getElem?_map, List.getElem?_range hi]; rfl, Ge.refl, rh1, .int _⟩
theorem walk_e {T : Fx} {m : Nat → Addr} {h : Hh} {H : Hp} {n : Nat} {ds : List D} (rh : RH T m h H) (e : lstAt h n = some ds) : WalkD T m h.length H ⟨ds.zipIdx.map fun p => .tup [.int (p.2 : Nat), p.1], [(n, ds)]⟩ (Ite T.K (m n)) := by
  intro m1 h1 H1 rh1 em hN tk ok
  have e1 : lstAt h1 n = some ds := ok (n, ds) (by simp)
  obtain ⟨hn, _⟩ := rh.lst e
  obtain ⟨_, vs, sq, q⟩ := rh1.lst e1
  rw [em n hn] at sq
  have w := walk_enum (K := T.K) (a := m n) (xs := vs)
  have hl : (ds.zipIdx.map fun p => D.tup [.int (p.2 : Nat), p.1]).length = vs.length := by rw [List.length_map, List.length_zipIdx, q.length]
  refine ⟨fun i hi => w.goes i H1 (by rw [← hl]; exact hi) sq, by show (Ite T.K (m n)).stop (ds.zipIdx.map _).length H1; rw [hl]; exact w.stops H1 sq, fun i x H' hi y => ?_⟩
  obtain ⟨t, x1, x2, rfl, nt, rfl, e3, e4⟩ := w.yields i H1 x H' (by rw [← hl]; exact hi) sq y
  cases e3
  obtain ⟨d, e2, r⟩ := q.getV e4
  obtain ⟨g, rh'⟩ := rh1.lay (u := .tup [.int (i : Nat), x2]) nt
  refine ⟨.tup [.int (i : Nat), d], ?_, g, rh', .tup (.inl (.inl upd_same)) (.cons (.int _) (.cons (g.rd r) .nil))⟩
  rw [List.getElem?_map, List.getElem?_zipIdx, e2]
  simp
theorem walk_z {T : Fx} {m : Nat → Addr} {h : Hh} {H : Hp} {n k : Nat} {ds es : List D} (rh : RH T m h H) (e : lstAt h n = some ds) (e' : lstAt h k = some es) :
    WalkD T m h.length H ⟨List.zipWith (fun x y => D.tup [x, y]) ds es, [(n, ds), (k, es)]⟩ (Itz T.K (m n) (m k)) := by
  intro m1 h1 H1 rh1 em hN tk ok
  have e1 : lstAt h1 n = some ds := ok (n, ds) (by simp)
  have e1' : lstAt h1 k = some es := ok (k, es) (by simp)
  obtain ⟨hn, _⟩ := rh.lst e
  obtain ⟨hk, _⟩ := rh.lst e'
  obtain ⟨_, vs, sq, q⟩ := rh1.lst e1
  obtain ⟨_, ws, sq', q'⟩ := rh1.lst e1'
  rw [em n hn] at sq
  rw [em k hk] at sq'
  have w := walk_zip (K := T.K) (a := m n) (b := m k) (xs := vs) (ys := ws) rfl
  have hl : (List.zipWith (fun x y => D.tup [x, y]) ds es).length = min vs.length ws.length := by rw [List.length_zipWith, q.length, q'.length]
  refine ⟨fun i hi => w.goes i H1 (by rw [← hl]; exact hi) ⟨sq, sq'⟩, by show (Itz T.K (m n) (m k)).stop (List.zipWith _ ds es).length H1; rw [hl]; exact w.stops H1 ⟨sq, sq'⟩, fun i x H' hi y => ?_⟩
  obtain ⟨t, x1, x2, rfl, nt, rfl, e3, e4⟩ := w.yields i H1 x H' (by rw [← hl]; exact hi) ⟨sq, sq'⟩ y
  obtain ⟨d, e2, r⟩ := q.getV e3
  obtain ⟨d', e2', r'⟩ := q'.getV e4
  obtain ⟨g, rh'⟩ := rh1.lay (u := .tup [x1, x2]) nt
  refine ⟨.tup [d, d'], ?_, g, rh', .tup (.inl (.inl upd_same)) (.cons (g.rd r) (.cons (g.rd r') .nil))⟩
  rw [List.getElem?_zipWith, e2, e2']
theorem walk_v {T : Fx} {m : Nat → Addr} {h : Hh} {H : Hp} {n : Nat} {ds : List D} (rh : RH T m h H) (e : lstAt h n = some ds) : WalkD T m h.length H ⟨ds.reverse, [(n, ds)]⟩ (Itv T.K (m n) ds.length) := by
  intro m1 h1 H1 rh1 em hN tk ok
  have e1 : lstAt h1 n = some ds := ok (n, ds) (by simp)
  obtain ⟨hn, _⟩ := rh.lst e
  obtain ⟨_, vs, sq, q⟩ := rh1.lst e1
  rw [em n hn] at sq
  have w := walk_rev (K := T.K) (a := m n) (xs := vs)
  rw [← q.length] at w
  refine ⟨fun i hi => w.goes i H1 (by rw [List.length_reverse] at hi; exact hi) sq, by rw [List.length_reverse]; exact w.stops H1 sq, fun i x H' hi y => ?_⟩
  rw [List.length_reverse] at hi
  obtain ⟨rfl, hx⟩ := w.yields i H1 x H' hi sq y
  obtain ⟨d, e2, r⟩ := q.getV hx
  exact ⟨d, by rw [List.getElem?_reverse hi]; exact e2, Ge.refl, rh1, r⟩
theorem pi_rng {X : Cx} {tg l : Expr} {tl : TE} (hl : PE X l tl) : PI X tg l (fun σ H R => tl σ H fun x H1 => ∃ a lo hi, x = V.ref a ∧ H1 a = some (.rng lo hi) ∧ (-(2 ^ 62) ≤ lo ∧ lo < 2 ^ 62 ∧ -(2 ^ 62) ≤ hi ∧ hi < 2 ^ 62) ∧ R (Itr lo (hi - lo).toNat) H1) := by
  refine ⟨fun pins s σ H R I h => ?_⟩
  refine thn (hl.run pins s σ H _ I h) fun v s1 ⟨x, H1, I1, r1, q1⟩ => ?_
  obtain ⟨a, lo, hi, e, ha, ⟨h1, h2, h3, h4⟩, q⟩ := q1
  subst e
  cases r1
  obtain ⟨t1, t2, t3, ho⟩ := I1.hok a _ ha
  refine wpAny_pyIter_range (show IsRange s1.heap a lo hi 1 t1 t2 t3 from ho) (small_one h1 h2 h3 h4) ?_
  refine ⟨s1.heap.objs.size, [s1.heap.objs.size], _, _, H1, rfl, I1.kept (t' := s1.toks) fun b o e => Heap.get?_push_of_some _ e, turn_range _ lo (hi - lo).toNat, ?_, fun b hb => ?_, q⟩
  · have e1 : lo + ((0 : Nat) : Int) * 1 = lo := by simp
    have e2 : (((hi - lo).toNat : Nat) : Int) - ((0 : Nat) : Int) = Builtin.Range.rangeSize lo hi 1 := by rw [rangeSize_one]; split <;> omega
    show IsRangeIter _ _ (lo + ((0 : Nat) : Int) * 1) ((((hi - lo).toNat : Nat) : Int) - ((0 : Nat) : Int)) 1
    rw [e1, e2]
    exact Heap.get?_push_size _ rfl
  · have e : b = s1.heap.objs.size := by simpa using hb
    subst e
    exact I1.fpOk (Nat.le_refl _) (I1.hok.fresh (Nat.le_refl _))
theorem i_seq {tg : Expr} (ha : PE X a (PE_ (FX X cv fn xs) W fa)) : PI X tg a (PI_ (FX X cv fn xs) W (iSeq fa)) := by
  refine ⟨fun pins s σ H R I hq => ?_⟩
  obtain ⟨m, e, h, rh, re, p⟩ := hq
  have p0 := p
  unfold iSeq at p0
  cases q : fa e h with
  | stuck => rw [q] at p0; exact p0.elim
  | exc x h1 =>
    refine (pi_list (tg := tg) ha).run pins s σ H R I ⟨m, e, h, rh, re, ?_⟩
    rw [q] at p0 ⊢
    exact p0
  | ok d h1 =>
    rw [q] at p0
    cases d with
    | tup ds =>
      refine (pi_tup (tg := tg) ha).run pins s σ H R I ⟨m, e, h, rh, re, ?_⟩
      rw [q]
      intro m1 H1 v g1 rh1 r
      cases r with
      | tup sq r => exact ⟨_, rfl, ⟨_, sq⟩, p0 m1 H1 _ g1 rh1 (walk_t sq r)⟩
    | str z =>
      refine (pi_str (tg := tg) ha).run pins s σ H R I ⟨m, e, h, rh, re, ?_⟩
      rw [q]
      intro m1 H1 v g1 rh1 r
      cases r
      exact ⟨z, rfl, p0 m1 H1 _ g1 rh1 walk_s⟩
    | ref n =>
      refine (pi_list (tg := tg) ha).run pins s σ H R I ⟨m, e, h, rh, re, ?_⟩
      rw [q]
      intro m1 H1 v g1 rh1 r
      cases r
      cases q2 : lstAt h1 n with
      | none =>
        have p1 : PO (FX X cv fn xs) W (WalkD (FX X cv fn xs)) σ m h H (match lstAt h1 n with | some ds => Mn.R.ok (⟨ds, [(n, ds)]⟩ : Sq) h1 | none => .stuck) R := p0
        rw [q2] at p1
        exact p1.elim
      | some ds =>
        have p1 : PO (FX X cv fn xs) W (WalkD (FX X cv fn xs)) σ m h H (match lstAt h1 n with | some ds => Mn.R.ok (⟨ds, [(n, ds)]⟩ : Sq) h1 | none => .stuck) R := p0
        rw [q2] at p1
        obtain ⟨_, vs, sq, _⟩ := rh1.lst q2
        exact ⟨_, rfl, ⟨vs, sq⟩, p1 m1 H1 _ g1 rh1 (walk_l rh1 q2)⟩
    | rg lo hi =>
      refine (pi_rng (tg := tg) ha).run pins s σ H R I ⟨m, e, h, rh, re, ?_⟩
      rw [q]
      intro m1 H1 v g1 rh1 r
      cases r with
      | rg hr =>
        change PO (FX X cv fn xs) W (WalkD (FX X cv fn xs)) σ m h H (rng lo hi h1) R at p0
        unfold rng at p0
        split at p0
        · rename_i hz
          exact ⟨_, _, _, rfl, hr, hz, p0 m1 H1 _ g1 rh1 walk_r⟩
        · exact p0.elim
    | non => exact p0.elim
    | bl _ => exact p0.elim
    | int _ => exact p0.elim
end
end Mn
namespace PySem
open Sem (wp)
open AutoSeq1 (wpAny_loadPart')
theorem mn_meets_enumT (l : Addr) (items : Array Value) (n : Nat) (dct : Option Addr) (sl : Array (Option Value)) :
    Meets (Builtin.«enumerate.__new__» ⟨[.type "enumerate", .ref l], []⟩) (fun _ R s => s.heap.get? l = some { cls := .type "tuple", dict := dct, data := .seq items n, slots := sl } ∧
      R (.ok (.ret (.ref (s.heap.push { cls := .type "tuple_iterator", data := .fields #[.ref l, .int 0 0] }).objs.size)))
        { s with heap := (s.heap.push { cls := .type "tuple_iterator", data := .fields #[.ref l, .int 0 0] }).push { cls := .type "enumerate", data := .fields #[.none, .bool false, .ref s.heap.objs.size, rawInt 0, .none, .none] } }) :=
  .of_wp fun prog w A R s h => by
    obtain ⟨hp, g, d, tk, os⟩ := s; obtain ⟨hl, h⟩ := h
    have hsub := sub_enumerate
    have hL : Heap.IsTuple (Shared.heap ⟨hp, g, d, tk, os⟩) l items := ⟨_, hl, rfl, n, rfl⟩
    wp_walk using wpAny_loadPart' hl
    refine wpAny_stack_any fun st => wpAny_pure ?_
    split
    · rename_i c _ _ _ _ _
      cases (c == Value.type "enumerate")
      · wp_walk using wpAny_loadPart' hl, wpAny_pyIter_tuple hL
        exact ⟨_, rfl, h⟩
      · wp_walk using wpAny_loadPart' hl, wpAny_pyIter_tuple hL
        exact ⟨_, rfl, h⟩
    · wp_walk using wpAny_loadPart' hl, wpAny_pyIter_tuple hL
      exact ⟨_, rfl, h⟩
section
variable {prog : Program} {w : World} {A : Around} {E : Value → Shared → Prop} {s : Shared}
theorem mn_call_enumT {l : Addr} {items : Array Value} {Q : Value → Shared → Prop} (hL : s.heap.IsTuple l items)
    (h : ∀ h', IsEnum h' (s.heap.objs.size + 1) s.heap.objs.size 0 .none → h'.IsTupleIter s.heap.objs.size l 0 → h'.objs.size = s.heap.objs.size + 2 →
      (∀ b o, s.heap.get? b = some o → h'.get? b = some o) → Q (.ref (s.heap.objs.size + 1)) { s with heap := h' }) :
    wpAny (model prog w) A (call (.type "enumerate") [.ref l]) Q E s := by
  obtain ⟨⟨c, dct, dt, sl⟩, hl, hc, n, hd⟩ := hL
  replace hc : c = .type "tuple" := hc
  replace hd : dt = .seq items n := hd
  subst hc hd
  refine callType_new F.called_enumerate (by decide) (F.typeCall_enumerate_1 _) (F.newCall_enumerate_1 _) (fun obj => F.args_object_init_2 obj _) F.entry_enumerate_new
    (mn_meets_enumT l items n dct sl) ⟨hl, ?_⟩
  have hz : (s.heap.push { cls := .type "tuple_iterator", data := .fields #[.ref l, .int 0 0] }).objs.size = s.heap.objs.size + 1 := Heap.size_push ..
  show _ ∧ _
  rw [hz]
  have he : IsEnum ((s.heap.push { cls := .type "tuple_iterator", data := .fields #[.ref l, .int 0 0] }).push
      { cls := .type "enumerate", data := .fields #[.none, .bool false, .ref s.heap.objs.size, rawInt 0, .none, .none] }) (s.heap.objs.size + 1) s.heap.objs.size 0 .none := by
    have := Heap.get?_push_size (s.heap.push { cls := .type "tuple_iterator", data := .fields #[.ref l, .int 0 0] })
      (o := { cls := .type "enumerate", data := .fields #[.none, .bool false, .ref s.heap.objs.size, rawInt 0, .none, .none] }) rfl
    rw [hz] at this; exact this
  refine ⟨⟨_, he, rfl⟩, h _ he ⟨_, Heap.get?_push_of_some _ (Heap.get?_push_size _ rfl), rfl, rfl⟩ (by rw [Heap.size_push, hz]) fun b o x => Heap.get?_push_of_some _ (Heap.get?_push_of_some _ x)⟩
end
end PySem
namespace Mn
open PySem PySem.Spec PyProof.Rows L2
def IteT (K : PySem.W.Frag) (a : Addr) : It :=
  ⟨fun i H => ∃ (xs : List V) (x : V), SqT K H a xs ∧ xs[i]? = some x, fun i H v H' => ∃ T x, v = .ref T ∧ H T = none ∧ H' = upd H T (.tup [.int (i : Nat), x]) ∧ ∀ xs, SqT K H a xs → xs[i]? = some x, fun i H => ∃ xs : List V, SqT K H a xs ∧ xs.length ≤ i⟩
theorem turn_enumT {P : Program} {w : World} {K : PySem.W.Frag} {elts : List Expr} {kk : Nat} {tpos : Pos} (a e it : Addr) :
    Turn P w K (.Tuple elts kk tpos) (IteT K a) [e, it] e (fun i h => (∃ old, IsEnum h e it ((i : Nat) : Int) old) ∧ h.IsTupleIter it a i ∧ e ≠ it) where
  mem := by simp
  obj := fun i h st b hb => by
    obtain ⟨⟨old, he⟩, ⟨o, ho, hc, hd⟩, _⟩ := st
    rcases (by simpa using hb : b = e ∨ b = it) with z | z
    · rw [z]; exact ⟨_, he, fun v q => nomatch q⟩
    · rw [z]; exact ⟨o, ho, fun v q => by rw [hd] at q; cases q⟩
  keep := fun i h h' st k => let ⟨⟨old, he⟩, hi, hne⟩ := st; ⟨⟨old, k e (by simp) _ he⟩, hi.at fun o q => k it (by simp) o q, hne⟩
  item := by
    intro X hP hw hK hc i pins s σ H E I hf st hg
    subst hP hw hK
    obtain ⟨⟨old, he⟩, hit, hne⟩ := st
    obtain ⟨xs, x, hq, hx⟩ := hg
    obtain ⟨its, rv, p, hz⟩ := I.tuple hq
    obtain ⟨u, hu, ru⟩ := rv.get hx
    have hT : s.heap.IsTuple a its.toArray := p
    have hai : a ≠ it := fun z => by
      obtain ⟨o1, g1, c1, _⟩ := hT
      obtain ⟨o2, g2, c2, _⟩ := hit
      rw [z, g2] at g1
      cases g1
      exact absurd (Value.type.inj (c1.symm.trans c2)) (by decide)
    have hae : e ≠ a := fun z => by
      obtain ⟨o1, g1, c1, _⟩ := hT
      rw [← z, he] at g1
      cases g1
      exact absurd (Value.type.inj (show Value.type "enumerate" = .type "tuple" from c1)) (by decide)
    have hel : e < s.heap.objs.size := Heap.lt_size he
    have hil : it < s.heap.objs.size := by obtain ⟨_, q, _⟩ := hit; exact Heap.lt_size q
    have hin : i < its.toArray.size := (Array.getElem?_eq_some_iff.mp (show its.toArray[i]? = some u by simpa using hu)).1
    refine wpAny_pyNext_enum_itemD (Draws.tuple (A := X.A.in1) (show X.A.in1.handled = none from I.ok.hd hc) it a hai its.toArray) he ⟨hit, hT⟩ hin hne (by simp [hne, hae]) fun y h' tk hy ho hst' hTp hsz hk => ?_
    have ey : y = u := by
      have hu' : its.toArray[i]? = some u := by simpa using hu
      rw [hy] at hu'
      exact Option.some.inj hu'
    subst ey
    obtain ⟨hit', hT'⟩ := hst'
    refine ⟨_, rfl, wpAny_letOwnedTupleGo_enum (s := { s with heap := h', toks := tk + 1 }) ho fun h'' he' sb => ?_⟩
    have hT2 : h''.get? s.heap.objs.size = some { cls := .type "tuple", data := .seq #[.int i tk, y] } := (sb.2 _ (Nat.ne_of_gt hel)).trans hTp
    have new : ObjOk X.prog X.w (upd H s.heap.objs.size (.tup [.int (i : Nat), x])) h'' s.heap.objs.size (.tup [.int (i : Nat), x]) :=
      ⟨by show 2 ≤ sizeLine; decide, [.int i tk, y], .cons ⟨_, rfl⟩ (.cons ru .nil), ⟨_, hT2, rfl, _, rfl⟩⟩
    have I1 : Inv X pins σ (upd H s.heap.objs.size (.tup [.int (i : Nat), x])) { s with heap := h'', toks := tk + 1 } :=
      I.turnedNew (ch := [e, it]) (fun b ob hb q => (sb.2 b (fun z => hb (by simp [z]))).trans (hk b ob (fun z => hb (by simp [z])) (fun z => hb (by simp [z])) q)) hf (Nat.le_refl _) new
    refine ⟨.ref s.heap.objs.size, _, I1, rfl, ⟨_, x, rfl, I.hok.fresh (Nat.le_refl _), rfl, fun ys hy => by rw [I.tuple_inj hy hq]; exact hx⟩, ⟨⟨y, ?_⟩, hit'.at fun o q => (sb.2 it (Ne.symm hne)).trans q, hne⟩, fun b hb => ?_⟩
    · have e1 : ((i + 1 : Nat) : Int) = (i : Int) + 1 := by omega
      rw [e1]; exact he'
    · have hb' : b < s.heap.objs.size := by
        rcases (by simpa using hb : b = e ∨ b = it) with z | z
        · rw [z]; exact hel
        · rw [z]; exact hil
      rw [upd_ne (Nat.ne_of_lt hb')]
      exact (hf b hb).1
  done := by
    intro X hP hw hK hc i pins s σ H E I hf st hg
    subst hP hw hK
    obtain ⟨⟨old, he⟩, hit, hne⟩ := st
    obtain ⟨xs, hq, hx⟩ := hg
    obtain ⟨its, rv, p, hz⟩ := I.tuple hq
    obtain ⟨f0, f1, f2, f3, f4, f5⟩ := hf it (by simp)
    have hl := rv.length
    have hT : s.heap.IsTuple a its.toArray := p
    have D : Draws X.prog X.w X.A.in1 it [it, a] 0 (fun _ _ => True) (fun _ h => h.IsTupleIter it a i ∧ h.IsTuple a its.toArray) :=
      { live := fun _ _ st => let ⟨o, ho, _⟩ := st.1; ⟨o, ho⟩
        frame := fun _ _ _ st hk => ⟨st.1.at fun o e => hk it (by simp) o e, st.2.at fun o e => hk a (by simp) o e⟩
        item := fun i s Q E hi => absurd hi (Nat.not_lt_zero _)
        done := fun s Q E st hE => wpAny_nextOf_tuple_end (show X.A.in1.handled = none from I.ok.hd hc) st.1 st.2 (by simp; omega) hE }
    exact wpAny_pyNext_enum_endD D he ⟨hit, hT⟩ fun h' eb => ⟨rfl, I.turned (t' := s.toks) (fun b o hb q => eb b o hb q) f0 f1 f3 f4 f5⟩
  self := fun A i s Q E st h => let ⟨⟨_, he⟩, _⟩ := st; wpAny_pyIter_enum he h
def iEnumA (K : PySem.W.Frag) (ta : TA) : TI := fun σ H R => ta σ H fun vs H1 => ∃ a xs, vs = [.ref a] ∧ ((SqL K H1 a xs ∧ R (Ite K a) H1) ∨ (SqT K H1 a xs ∧ R (IteT K a) H1))
theorem pi_enumA {X : Cx} {e : Expr} {ta : TA} {p pos tpos : Pos} {elts : List Expr} {kk : Nat} (hg : Gl X "enumerate") (hm : X.mg "enumerate" = none) (ha : PA X [e] ta) (hs : starEach [e] X.env = [(false, eval e X.env)]) :
    PI X (.Tuple elts kk tpos) (.Call (.Name "enumerate" p) [e] [] pos) (iEnumA X.K ta) := by
  refine ⟨fun pins s σ H R I h => ?_⟩
  refine Call_ (ld_blt I hg hm boot_enumerate (PyProof.Rows.callWith_type1 (thn (ha.run pos pins s σ H _ I h) fun us s1 ⟨vs, H1, I1, r1, q1⟩ => ?_) hs rfl))
  obtain ⟨a, xs, ex, q1⟩ := q1
  subst ex
  cases r1 with
  | cons r rr =>
    cases rr
    cases r
    have hfp : ∀ b, b ∈ [s1.heap.objs.size + 1, s1.heap.objs.size] → FpOk X pins H1 b := fun b hb => by
      have hle : s1.heap.objs.size ≤ b := by
        rcases (by simpa using hb : b = s1.heap.objs.size + 1 ∨ b = s1.heap.objs.size) with z | z
        · rw [z]; exact Nat.le_add_right _ _
        · rw [z]; exact Nat.le_refl _
      exact I1.fpOk hle (I1.hok.fresh hle)
    rcases q1 with ⟨hq, q⟩ | ⟨hq, q⟩
    · obtain ⟨its, rv, p', hz⟩ := I1.list hq
      refine call_enumerate_list p'.isList fun h' he hit hsz hk => wpAny_pyIter_enum he ?_
      have I2 : Inv X pins σ H1 { s1 with heap := h' } := I1.kept (t' := s1.toks) hk
      exact ⟨s1.heap.objs.size + 1, [s1.heap.objs.size + 1, s1.heap.objs.size], _, _, H1, rfl, I2, turn_enum a (s1.heap.objs.size + 1) s1.heap.objs.size, ⟨⟨.none, he⟩, hit, Nat.succ_ne_self _⟩, hfp, q⟩
    · obtain ⟨its, rv, p', hz⟩ := I1.tuple hq
      refine mn_call_enumT (show s1.heap.IsTuple a its.toArray from p') fun h' he hit hsz hk => wpAny_pyIter_enum he ?_
      have I2 : Inv X pins σ H1 { s1 with heap := h' } := I1.kept (t' := s1.toks) hk
      exact ⟨s1.heap.objs.size + 1, [s1.heap.objs.size + 1, s1.heap.objs.size], _, _, H1, rfl, I2, turn_enumT a (s1.heap.objs.size + 1) s1.heap.objs.size, ⟨⟨.none, he⟩, hit, Nat.succ_ne_self _⟩, hfp, q⟩
theorem walk_eT {T : Fx} {m : Nat → Addr} {h : Hh} {H : Hp} {a : Addr} {ds : List D} {vs : List V} (sq : SqT T.K H a vs) (q : RDs T.K m h.length H ds vs) : WalkD T m h.length H ⟨ds.zipIdx.map fun p => .tup [.int (p.2 : Nat), p.1], []⟩ (IteT T.K a) := by
  intro m1 h1 H1 rh1 em hN tk ok
  have sq1 := tk.seq sq
  have q1 := q.mono tk em hN
  have hl : (ds.zipIdx.map fun p => D.tup [.int (p.2 : Nat), p.1]).length = vs.length := by rw [List.length_map, List.length_zipIdx, q.length]
  refine ⟨fun i hi => ⟨vs, vs[i]'(by rw [← hl]; exact hi), sq1, by rw [List.getElem?_eq_getElem]⟩, ⟨vs, sq1, by rw [hl]; exact Nat.le_refl _⟩, fun i x H' hi y => ?_⟩
  obtain ⟨t, x2, rfl, nt, rfl, e4⟩ := y
  obtain ⟨d, e2, r⟩ := q1.getV (e4 vs sq1)
  obtain ⟨g, rh'⟩ := rh1.lay (u := .tup [.int (i : Nat), x2]) nt
  refine ⟨.tup [.int (i : Nat), d], ?_, g, rh', .tup (.inl (.inl upd_same)) (.cons (.int _) (.cons (g.rd r) .nil))⟩
  rw [List.getElem?_map, List.getElem?_zipIdx, e2]
  simp
theorem walk_zT {T : Fx} {m : Nat → Addr} {h : Hh} {H : Hp} {a b : Addr} {ds es : List D} {vs ws : List V} (sq : SqT T.K H a vs) (sq' : SqT T.K H b ws) (q : RDs T.K m h.length H ds vs) (q' : RDs T.K m h.length H es ws) : WalkD T m h.length H ⟨List.zipWith (fun x y => D.tup [x, y]) ds es, []⟩ (RZ.ItzT T.K a b) := by
  intro m1 h1 H1 rh1 em hN tk ok
  have sq1 := tk.seq sq
  have sq2 := tk.seq sq'
  have q1 := q.mono tk em hN
  have q2 := q'.mono tk em hN
  have hl : (List.zipWith (fun x y => D.tup [x, y]) ds es).length = min vs.length ws.length := by rw [List.length_zipWith, q.length, q'.length]
  refine ⟨fun i hi => ?_, ⟨vs, ws, sq1, sq2, by rw [hl]; omega⟩, fun i x H' hi y => ?_⟩
  · have z1 : i < vs.length := by have := hi; rw [hl] at this; omega
    have z2 : i < ws.length := by have := hi; rw [hl] at this; omega
    exact ⟨vs, ws, vs[i], ws[i], sq1, sq2, by rw [List.getElem?_eq_getElem], by rw [List.getElem?_eq_getElem]⟩
  obtain ⟨t, x1, x2, rfl, nt, rfl, e3, e4⟩ := y
  obtain ⟨d, e5, r⟩ := q1.getV (e3 vs sq1)
  obtain ⟨d', e6, r'⟩ := q2.getV (e4 ws sq2)
  obtain ⟨g, rh'⟩ := rh1.lay (u := .tup [x1, x2]) nt
  refine ⟨.tup [d, d'], ?_, g, rh', .tup (.inl (.inl upd_same)) (.cons (g.rd r) (.cons (g.rd r') .nil))⟩
  rw [List.getElem?_zipWith, e5, e6]
end Mn
namespace Mn
open PySem L2
section
variable {X : Cx} {cv : Nat → Value} {fn : Nat → Str} {xs : Xs} {W : WX} {pos : Pos} {a b c tg : Expr} {fa fb fc : ED} {t u : TD}
theorem pa1 {ta : TE} (ha : PE X a ta) (hs : starEach [a] X.env = [(false, eval a X.env)]) : PA X [a] (fun σ H Q => ta σ H fun x H1 => Q [x] H1) :=
  paImp (pa_cons ha pa_nil (by rw [hs]; rfl)) fun _ _ _ q => q
theorem pa2 {ta tb : TE} (ha : PE X a ta) (hb : PE X b tb) (hs : starEach [a, b] X.env = [(false, eval a X.env), (false, eval b X.env)]) (hs2 : starEach [b] X.env = [(false, eval b X.env)]) : PA X [a, b] (fun σ H Q => ta σ H fun x H1 => tb σ H1 fun y H2 => Q [x, y] H2) :=
  paImp (pa_cons ha (pa_cons hb pa_nil (by rw [hs2]; rfl)) (by rw [hs, hs2])) fun _ _ _ q => q
theorem rng1_imp {σ : L2.St} {H : Hp} {R : It → Hp → Prop} (q : PI_ (FX X cv fn xs) W (iRange1 fa) σ H R) : iRng1 (fun σ H Q => PE_ (FX X cv fn xs) W fa σ H fun x H1 => Q [x] H1) σ H R := by
  obtain ⟨m, e, h, rh, re, p⟩ := q
  refine ⟨m, e, h, rh, re, p.bind fun d h1 m1 H1 v g1 rh1 rx p1 => ?_⟩
  cases d with
  | int hi =>
    cases rx
    change PO (FX X cv fn xs) W (WalkD (FX X cv fn xs)) σ m1 h1 H1 (rng 0 hi h1) R at p1
    unfold rng at p1
    split at p1
    · rename_i hz
      refine ⟨_, rfl, hz.2.2.1, hz.2.2.2, ?_⟩
      have q := p1 m1 H1 _ Ge.refl rh1 walk_r
      rw [Int.sub_zero] at q
      exact q
    · exact p1.elim
  | _ => exact p1.elim
theorem i_range1 {p : Pos} (hg : Gl X "range") (hm : X.mg "range" = none) (ha : PE X a (PE_ (FX X cv fn xs) W fa)) (hs : starEach [a] X.env = [(false, eval a X.env)]) : PI X tg (.Call (.Name "range" p) [a] [] pos) (PI_ (FX X cv fn xs) W (iRange1 fa)) :=
  piImp (pi_range1 hg hm (pa1 ha hs) hs) fun σ H R q => rng1_imp q
theorem i_range2 {p : Pos} (hg : Gl X "range") (hm : X.mg "range" = none) (ha : PE X a (PE_ (FX X cv fn xs) W fa)) (hb : PE X b (PE_ (FX X cv fn xs) W fb)) (hs : starEach [a, b] X.env = [(false, eval a X.env), (false, eval b X.env)]) (hs2 : starEach [b] X.env = [(false, eval b X.env)]) :
    PI X tg (.Call (.Name "range" p) [a, b] [] pos) (PI_ (FX X cv fn xs) W (iRange2 fa fb)) := by
  refine piImp (pi_range2 hg hm (pa2 ha hb hs hs2) hs hs2) fun σ H R q => ?_
  obtain ⟨m, e, h, rh, re, p⟩ := q
  refine ⟨m, e, h, rh, re, p.bind fun d h1 m1 H1 v g1 rh1 rx p1 => ⟨m1, e, h1, rh1, g1.re re, p1.bind fun d2 h2 m2 H2 v2 g2 rh2 rx2 p2 => ?_⟩⟩
  cases d with
  | int lo =>
    cases d2 with
    | int hi =>
      cases rx
      cases rx2
      change PO (FX X cv fn xs) W (WalkD (FX X cv fn xs)) σ m2 h2 H2 (rng lo hi h2) R at p2
      unfold rng at p2
      split at p2
      · rename_i hz
        exact ⟨_, _, rfl, ⟨hz.1, hz.2.1, hz.2.2.1, hz.2.2.2⟩, p2 m2 H2 _ Ge.refl rh2 walk_r⟩
      · exact p2.elim
    | _ => exact p2.elim
  | _ => exact p2.elim
theorem i_enum {p tpos : Pos} {elts : List Expr} {kk : Nat} (hg : Gl X "enumerate") (hm : X.mg "enumerate" = none) (ha : PE X a (PE_ (FX X cv fn xs) W fa)) (hs : starEach [a] X.env = [(false, eval a X.env)]) : PI X (.Tuple elts kk tpos) (.Call (.Name "enumerate" p) [a] [] pos) (PI_ (FX X cv fn xs) W (iEnum fa)) := by
  refine piImp (pi_enumA hg hm (pa1 ha hs) hs) fun σ H R q => ?_
  obtain ⟨m, e, h, rh, re, p⟩ := q
  refine ⟨m, e, h, rh, re, p.bind fun d h1 m1 H1 v g1 rh1 rx p1 => ?_⟩
  cases d with
  | tup ds =>
    cases rx with
    | tup sq r => exact ⟨_, _, rfl, .inr ⟨sq, p1 m1 H1 _ Ge.refl rh1 (walk_eT sq r)⟩⟩
  | ref n =>
    cases rx
    change PO (FX X cv fn xs) W (WalkD (FX X cv fn xs)) σ m1 h1 H1 (match lstAt h1 n with | some ds => Mn.R.ok (⟨ds.zipIdx.map fun p => .tup [.int (p.2 : Nat), p.1], [(n, ds)]⟩ : Sq) h1 | none => .stuck) R at p1
    split at p1
    · rename_i q2
      obtain ⟨_, vs, sq, _⟩ := rh1.lst q2
      exact ⟨_, _, rfl, .inl ⟨sq, p1 m1 H1 _ Ge.refl rh1 (walk_e rh1 q2)⟩⟩
    · exact p1.elim
  | _ => exact p1.elim
theorem i_zip {p tpos : Pos} {elts : List Expr} {kk : Nat} (hg : Gl X "zip") (hm : X.mg "zip" = none) (ha : PE X a (PE_ (FX X cv fn xs) W fa)) (hb : PE X b (PE_ (FX X cv fn xs) W fb)) (hs : starEach [a, b] X.env = [(false, eval a X.env), (false, eval b X.env)]) (hs2 : starEach [b] X.env = [(false, eval b X.env)])
    (hpl : (backTo pos (starEach [b] X.env)).any (·.1) = false) : PI X (.Tuple elts kk tpos) (.Call (.Name "zip" p) [a, b] [] pos) (PI_ (FX X cv fn xs) W (iZip fa fb)) := by
  refine piImp (RZ.pi_zipA hg hm (pa2 ha hb hs hs2) (by rw [hs, hs2]) hpl) fun σ H R q => ?_
  obtain ⟨m, e, h, rh, re, p⟩ := q
  refine ⟨m, e, h, rh, re, p.bind fun d h1 m1 H1 v g1 rh1 rx p1 => ⟨m1, e, h1, rh1, g1.re re, p1.bind fun d2 h2 m2 H2 v2 g2 rh2 rx2 p2 => ?_⟩⟩
  cases d with
  | tup ds =>
    cases d2 with
    | tup es =>
      have rx := g2.rd rx
      cases rx with
      | tup sq r =>
        cases rx2 with
        | tup sq' r' => exact ⟨_, _, _, _, rfl, .inr ⟨sq, sq', p2 m2 H2 _ Ge.refl rh2 (walk_zT sq sq' r r')⟩⟩
    | _ => exact p2.elim
  | ref n =>
    cases d2 with
    | ref k =>
      have rx := g2.rd rx
      cases rx
      cases rx2
      change PO (FX X cv fn xs) W (WalkD (FX X cv fn xs)) σ m2 h2 H2 (match lstAt h2 n, lstAt h2 k with | some ds, some es => Mn.R.ok (⟨List.zipWith (fun x y => .tup [x, y]) ds es, [(n, ds), (k, es)]⟩ : Sq) h2 | _, _ => .stuck) R at p2
      split at p2
      · rename_i q1 q2
        obtain ⟨_, vs, sq, _⟩ := rh2.lst q1
        obtain ⟨_, ws, sq', _⟩ := rh2.lst q2
        exact ⟨_, _, _, _, rfl, .inl ⟨sq, sq', p2 m2 H2 _ Ge.refl rh2 (walk_z rh2 q1 q2)⟩⟩
      · exact p2.elim
    | _ => exact p2.elim
  | _ => exact p2.elim
theorem i_rev {p : Pos} (hg : Gl X "reversed") (hm : X.mg "reversed" = none) (ha : PE X a (PE_ (FX X cv fn xs) W fa)) (hs : starEach [a] X.env = [(false, eval a X.env)]) : PI X tg (.Call (.Name "reversed" p) [a] [] pos) (PI_ (FX X cv fn xs) W (iRev fa)) := by
  refine piImp (pi_reversed hg hm (pa1 ha hs) hs) fun σ H R q => ?_
  obtain ⟨m, e, h, rh, re, p⟩ := q
  refine ⟨m, e, h, rh, re, p.bind fun d h1 m1 H1 v g1 rh1 rx p1 => ?_⟩
  cases d with
  | ref n =>
    cases rx
    change PO (FX X cv fn xs) W (WalkD (FX X cv fn xs)) σ m1 h1 H1 (match lstAt h1 n with | some ds => Mn.R.ok (⟨ds.reverse, [(n, ds)]⟩ : Sq) h1 | none => .stuck) R at p1
    split at p1
    · rename_i q2
      obtain ⟨_, vs, sq, r⟩ := rh1.lst q2
      refine ⟨_, _, rfl, sq, ?_⟩
      rw [← r.length]
      exact p1 m1 H1 _ Ge.refl rh1 (walk_v rh1 q2)
    · exact p1.elim
  | _ => exact p1.elim
def But (is : List Nat) (σ σ' : L2.St) : Prop := σ'.length = σ.length ∧ ∀ j, j ∉ is → σ'[j]? = σ[j]?
def PG_ (T : Fx) (is : List Nat) (g : Tg) : TG := fun v σ H Q => ∃ m h d e e1, RH T m h H ∧ RE T m h.length H e σ ∧ RD T.K m h.length H d v ∧ g d e = some e1 ∧ ∀ σ', RE T m h.length H e1 σ' → But is σ σ' → Q σ' H
theorem pgImp {tg : Expr} {t t' : TG} (h : PG X tg t) (w : ∀ v σ H Q, t' v σ H Q → t v σ H Q) : PG X tg t' := ⟨fun pins s σ H v u Q I r q => h.run pins s σ H v u Q I r (w v σ H Q q)⟩
theorem g_n {i : Nat} {x : Str} (nx : Nx (FX X cv fn xs) i) (hN : X.N.Nodup) (hi : X.N[i]? = some x) (hx : Loc X.env.scope x) (hf : X.fn x = true ∨ X.env.scope.names.lookup x = some .local) : PG X (.Name x pos) (PG_ (FX X cv fn xs) [i] (gN i)) :=
  pgImp (pg_name hN hi hx hf) fun v σ H Q q => by
    obtain ⟨m, h, d, e, e1, rh, re, rd, eg, k⟩ := q
    cases eg
    exact k _ (re.set i nx rd) ⟨List.length_set .., fun j hj => List.getElem?_set_ne fun z => hj (by simp [z])⟩
def setAll (σ : L2.St) (ps : List (Nat × V)) : L2.St := ps.foldl (fun σ p => σ.set p.1 (some p.2)) σ
theorem setAll_but : ∀ {is : List Nat} {vs : List V} {σ : L2.St}, But is σ (setAll σ (is.zip vs))
  | [], _, _ => by rw [List.zip_nil_left]; exact ⟨rfl, fun _ _ => rfl⟩
  | i :: is, [], _ => by rw [List.zip_nil_right]; exact ⟨rfl, fun _ _ => rfl⟩
  | i :: is, v :: vs, σ => by
    rw [List.zip_cons_cons]
    obtain ⟨h1, h2⟩ := setAll_but (is := is) (vs := vs) (σ := σ.set i (some v))
    refine ⟨h1.trans (List.length_set ..), fun j hj => ?_⟩
    simp only [List.mem_cons, not_or] at hj
    exact (h2 j hj.2).trans (List.getElem?_set_ne (Ne.symm hj.1))
theorem wipe_at : ∀ (vs : List Nat) (σ : L2.St) (j : Nat), (L2.wipe σ vs)[j]? = if j ∈ vs ∧ j < σ.length then some none else σ[j]?
  | [], σ, j => by
    rw [if_neg (fun z => by simp at z)]
    rfl
  | v :: vs, σ, j => by
    show ((L2.wipe σ vs).set v none)[j]? = _
    by_cases hv : v = j
    · subst hv
      by_cases hl : v < σ.length
      · rw [List.getElem?_set_self (by rw [L2.wipe_length]; exact hl), if_pos ⟨by simp, hl⟩]
      · rw [List.getElem?_eq_none (by rw [List.length_set, L2.wipe_length]; omega), if_neg (fun z => hl z.2), List.getElem?_eq_none (by omega)]
    · rw [List.getElem?_set_ne hv, wipe_at vs σ j]
      have e : (j ∈ v :: vs ∧ j < σ.length) ↔ (j ∈ vs ∧ j < σ.length) := by simp [Ne.symm hv]
      simp only [e]
theorem wipe_but {is own : List Nat} {σ σ' : L2.St} (b : But is (L2.wipe σ own) σ') (hs : ∀ i ∈ is, i ∈ own) : L2.wipe σ' own = L2.wipe σ own := by
  have hl : σ'.length = σ.length := b.1.trans (L2.wipe_length _ _)
  apply List.ext_getElem?
  intro j
  rw [wipe_at, wipe_at, hl]
  by_cases hj : j ∈ own
  · by_cases h2 : j < σ.length
    · rw [if_pos ⟨hj, h2⟩, if_pos ⟨hj, h2⟩]
    · rw [if_neg (fun z => h2 z.2), if_neg (fun z => h2 z.2), List.getElem?_eq_none (by omega), List.getElem?_eq_none (by omega)]
  · rw [if_neg (fun z => hj z.1), if_neg (fun z => hj z.1), b.2 j (fun z => hj (hs j z)), wipe_at, if_neg (fun z => hj z.1)]
def gls (is : List Nat) : TGs := fun vs σ H Q => vs.length = is.length ∧ Q (setAll σ (is.zip vs)) H
def nmOk (X : Cx) : Expr → Nat → Prop
  | .Name x _, i => X.N[i]? = some x ∧ Loc X.env.scope x ∧ (X.fn x = true ∨ X.env.scope.names.lookup x = some .local)
  | _, _ => False
theorem pgs_names (hN : X.N.Nodup) : ∀ (es : List Expr) (is : List Nat), Paired (nmOk X) es is → PGs X es (gls is) ∧ (assignEach es X.env).length = is.length ∧ (assignEach es X.env).findIdx? (·.1) = none
  | [], _, .nil => ⟨⟨fun pins s σ H vs us Q I r q => (pgs_nil (X := X)).run pins s σ H vs us Q I r ⟨List.eq_nil_of_length_eq_zero q.1, by
      have e : vs = [] := List.eq_nil_of_length_eq_zero q.1
      subst e
      exact q.2⟩⟩, rfl, rfl⟩
  | .Name x p :: es, i :: is, .cons ho hr => by
    obtain ⟨h1, h2, h3⟩ := pgs_names hN es is hr
    have g := pg_name (pos := p) hN ho.1 ho.2.1 ho.2.2
    refine ⟨⟨fun pins s σ H vs us Q I r q => (pgs_cons g h1 (by rfl)).run pins s σ H vs us Q I r ?_⟩, ?_, ?_⟩
    · obtain ⟨hl, q⟩ := q
      cases vs with
      | nil => cases hl
      | cons v vs => exact ⟨v, vs, rfl, Nat.succ.inj hl, q⟩
    · show (assignEach es X.env).length + 1 = _
      rw [h2]
      rfl
    · show List.findIdx? (·.1) ((false, assign (.Name x p) X.env) :: assignEach es X.env) = none
      rw [List.findIdx?_cons, h3]
      rfl
theorem setAll_re {T : Fx} (hx : T.ex = none) {m : Nat → Addr} {N : Nat} {H : Hp} : ∀ {is : List Nat} {ds : List D} {vs : List V} {e : Ev} {σ : L2.St}, RE T m N H e σ → RDs T.K m N H ds vs → RE T m N H ((is.zip ds).foldl (fun e p => e.set p.1 (some p.2)) e) (setAll σ (is.zip vs))
  | [], _, _, _, _, re, _ => by rw [List.zip_nil_left, List.zip_nil_left]; exact re
  | i :: is, _, _, _, _, re, .nil => by rw [List.zip_nil_right, List.zip_nil_right]; exact re
  | i :: is, _, _, _, _, re, .cons r rs => by
    rw [List.zip_cons_cons, List.zip_cons_cons, List.foldl_cons]
    exact setAll_re hx (re.set i (fun j a h => by rw [hx] at h; cases h) r) rs
theorem g_t {es : List Expr} {is : List Nat} {k : Nat} (hx : xs = none) (hc : X.calm = true) (hN : X.N.Nodup) (ho : Paired (nmOk X) es is) : PG X (.Tuple es k pos) (PG_ (FX X cv fn xs) is (gT is)) := by
  obtain ⟨h1, h2, h3⟩ := pgs_names hN es is ho
  refine pgImp (pg_tup hc h1 h2 h3) fun v σ H Q q => ?_
  obtain ⟨m, h, d, e, e1, rh, re, rd, eg, k⟩ := q
  cases d with
  | tup ds =>
    cases rd with
    | tup sq r =>
      change (if ds.length = is.length then _ else none) = some e1 at eg
      split at eg
      · rename_i hl
        cases eg
        exact ⟨_, _, rfl, sq, by rw [← r.length]; exact hl, by rw [← r.length]; exact hl, k _ (setAll_re hx re r) setAll_but⟩
      · cases eg
  | _ => cases eg
theorem s_lc {el it : Expr} {ifs : List Expr} {scope : Scope} {own : List (Str × Nat)} {fi : ID} {g : Tg} {is : List Nat} {fe : ED} {tt : TD} (hx : xs = none) (hc : X.calm = true) (hN : X.N.Nodup) (hi : PI X tg it (PI_ (FX X cv fn xs) W fi)) (ok : BlkOk X.N X.env.scope scope own)
    (hg : ∀ (s : Shared) (H : Hp) (C : Addr) (cl : List (Str × Addr)) (fp : List Addr), PG (X.blk s H scope (compEnvC scope cl C X.env) fp) tg (PG_ (FX X cv fn xs) is g))
    (ht : ∀ (s : Shared) (H : Hp) (C : Addr) (cl : List (Str × Addr)) (fp : List Addr), PTs (X.blk s H scope (compEnvC scope cl C X.env) fp) ifs (PT_ (FX X cv fn xs) (fun _ _ _ _ => False) tt))
    (he : ∀ (s : Shared) (H : Hp) (C : Addr) (cl : List (Str × Addr)) (fp : List Addr), PE (X.blk s H scope (compEnvC scope cl C X.env) fp) el (PE_ (FX X cv fn xs) (fun _ _ _ _ => False) fe))
    (hio : ∀ i ∈ is, i ∈ own.map (·.2)) (hs : ∀ x, foldedSetIterable it X.env x = pure x) {σ : L2.St} {H : Hp} {Q : VK} (q : PE_ (FX X cv fn xs) W (dLc fi g tt fe (own.map (·.2))) σ H Q) :
    tLc (PI_ (FX X cv fn xs) W fi) (PG_ (FX X cv fn xs) is g) (PT_ (FX X cv fn xs) (fun _ _ _ _ => False) tt) (PE_ (FX X cv fn xs) (fun _ _ _ _ => False) fe) (own.map (·.2)) σ H Q := by
  obtain ⟨m, e, h, rh, re, p⟩ := q
  refine ⟨m, e, h, rh, re, p.bind fun sq h1 m1 H1 J g1 rh1 wk p1 => ?_⟩
  intro D hD
  obtain ⟨m2, g2, rh2, rd2⟩ := rh1.newL (ds := []) (vs := []) hD .nil
  have eD : m2 h1.length = D := by
    cases rd2
    rfl
  have re2 : RE (FX X cv fn xs) m2 (h1 ++ [O.lst []]).length (upd H1 D (.lst [])) (Mn.wipe e (own.map (·.2))) (L2.wipe σ (own.map (·.2))) := (g2.re (g1.re re)).wipe hx _
  have p2 := p1.base g2
  generalize own.map (·.2) = vs at *
  refine ⟨fun i n H => n = sq.items.length - i ∧ i ≤ sq.items.length ∧ ∃ m h, RH (FX X cv fn xs) m h H ∧ Ge m2 (h1 ++ [O.lst []]) (upd H1 D (.lst [])) m h H ∧
    PO (FX X cv fn xs) W (rdR (FX X cv fn xs)) σ m h H (lcGo sq.src g tt fe (Mn.wipe e vs) h1.length (sq.items.drop i) h) Q, ⟨_, rfl, Nat.zero_le _, m2, _, rh2, Ge.refl, p2⟩, ?_⟩
  rintro i n H3 ⟨rfl, hi3, m3, h3, rh3, g3, p3⟩
  have g13 := g2.trans g3
  have lt1 : h1.length < h3.length := Nat.lt_of_lt_of_le (by rw [List.length_append]; exact Nat.lt_succ_self _) g3.le
  have e3 : m3 h1.length = D := (g3.eq _ (by rw [List.length_append]; exact Nat.lt_succ_self _)).trans eD
  have wk3 := wk m3 h3 H3 rh3 g13.eq g13.le g13.tk
  by_cases hlt : i < sq.items.length
  · right
    rw [List.drop_eq_getElem_cons hlt] at p3
    unfold lcGo at p3
    split at p3
    · rename_i hok
      obtain ⟨go, _, yl⟩ := wk3 hok
      refine ⟨go i hlt, fun H' => (fun n H => n = sq.items.length - (i + 1) ∧ i + 1 ≤ sq.items.length ∧ ∃ m h, RH (FX X cv fn xs) m h H ∧ Ge m2 (h1 ++ [O.lst []]) (upd H1 D (.lst [])) m h H ∧
        PO (FX X cv fn xs) W (rdR (FX X cv fn xs)) σ m h H (lcGo sq.src g tt fe (Mn.wipe e vs) h1.length (sq.items.drop (i + 1)) h) Q) (sq.items.length - (i + 1)) H', fun H' w => ⟨_, by omega, w⟩, fun x H4 y => ?_⟩
      obtain ⟨d, ed, g4, rh4, rd4⟩ := yl i x H4 hlt y
      rw [List.getElem?_eq_getElem hlt] at ed
      cases ed
      have p4 := p3.base g4
      split at p4
      · rename_i e1 eg
        refine ⟨m3, h3, _, _, e1, rh4, g4.re (g3.re re2), rd4, eg, fun σ' re' but => ⟨wipe_but but hio, ?_⟩⟩
        refine ⟨m3, e1, h3, rh4, re', ?_⟩
        cases qt : tt e1 h3 with
        | stuck => rw [qt] at p4; exact p4.elim
        | exc x h5 => rw [qt] at p4; exact p4.elim
        | ok k h5 =>
          rw [qt] at p4
          intro m5 H5 b g5 rh5 eb
          subst eb
          cases k with
          | false =>
            rw [if_neg Bool.false_ne_true]
            exact ⟨rfl, hlt, m5, h5, rh5, (g3.trans g4).trans g5, PO.base (r := lcGo sq.src g tt fe (Mn.wipe e vs) h1.length (sq.items.drop (i + 1)) h5) p4 g5⟩
          | true =>
            rw [if_pos rfl]
            refine ⟨m5, e1, h5, rh5, g5.re re', ?_⟩
            cases qe : fe e1 h5 with
            | stuck => simp only [qe] at p4; exact p4.elim
            | exc x h6 => simp only [qe] at p4; exact p4.elim
            | ok y h6 =>
              simp only [qe] at p4
              intro m6 H6 yv g6 rh6 ry
              split at p4
              · rename_i acc ea
                split at p4
                · rename_i hz
                  obtain ⟨hn, ws, q1, q2⟩ := rh6.mut ea
                  have e6 : m6 h1.length = D := (g6.eq _ (Nat.lt_of_lt_of_le lt1 g5.le)).trans ((g5.eq _ lt1).trans e3)
                  obtain ⟨g7, rh7⟩ := rh6.putL ea q1 (q2.snoc ry)
                  have g16 := (((g3.trans g4).trans g5).trans g6).trans g7
                  refine ⟨ws, by rw [← e6]; exact q1, by rw [sizeLine_eq, ← q2.length]; exact hz, rfl, hlt, m6, h6.set h1.length (.lst (acc ++ [y])), ?_, ?_, ?_⟩
                  · rw [← e6]; exact rh7
                  · rw [e6] at g16; exact g16
                  · rw [← e6]
                    exact PO.base (r := lcGo sq.src g tt fe (Mn.wipe e vs) h1.length (sq.items.drop (i + 1)) (h6.set h1.length (.lst (acc ++ [y])))) p4 ((g5.trans g6).trans g7)
                · exact p4.elim
              · exact p4.elim
      · exact p4.elim
    · exact p3.elim
  · have ei : i = sq.items.length := by omega
    subst ei
    left
    rw [List.drop_length] at p3
    unfold lcGo at p3
    split at p3
    · rename_i hok
      obtain ⟨_, st, _⟩ := wk3 hok
      refine ⟨st, ?_⟩
      have r := RD.ref (K := X.K) (m := m3) (H := H3) lt1
      rw [e3] at r
      exact p3.here rh3 r
    · exact p3.elim
end
end Mn
namespace Mn
open PySem L2
section
variable {X : Cx} {cv : Nat → Value} {fn : Nat → Str} {xs : Xs} {W : WX} {pos : Pos} {a b c tg : Expr} {fa fb fc : ED} {t u : TD} {st : Stmt} {rest : List Stmt} {f g : SD}
theorem s_nil : PSs X [] (PS_ (FX X cv fn xs) W sNx) := pssImp pss_nil fun D σ H q => by
  obtain ⟨m, e, h, rh, re, p⟩ := q
  exact p m H σ Ge.refl rh re
theorem s_cons (h1 : PS X st (PS_ (FX X cv fn xs) W f)) (h2 : PSs X rest (PS_ (FX X cv fn xs) W g)) : PSs X (st :: rest) (PS_ (FX X cv fn xs) W (sSq f g)) :=
  pssImp (pss_cons h1 h2) fun D σ H q => by
    obtain ⟨m, e, h, rh, re, p⟩ := q
    refine ⟨m, e, h, rh, re, ?_⟩
    unfold sSq at p
    cases q : f e h with
    | stuck => rw [q] at p; exact p
    | exc x e1 h1 => rw [q] at p; exact p
    | go k e1 h1 =>
      rw [q] at p
      cases k with
      | nx => exact fun m1 H1 σ1 g1 rh1 re1 => ⟨m1, e1, h1, rh1, re1, PSo.base (r := g e1 h1) p g1⟩
      | bk => exact p
      | ct => exact p
      | rt d => exact p
theorem s_one (h1 : PS X st (PS_ (FX X cv fn xs) W f)) : PSs X [st] (PS_ (FX X cv fn xs) W f) := pss_one h1
theorem s_pass : PS X (.Pass pos) (PS_ (FX X cv fn xs) W sNx) := psImp ps_pass fun D σ H q => by
  obtain ⟨m, e, h, rh, re, p⟩ := q
  exact p m H σ Ge.refl rh re
theorem s_brk : PS X (.Break pos) (PS_ (FX X cv fn xs) W sBk) := psImp ps_break fun D σ H q => by
  obtain ⟨m, e, h, rh, re, p⟩ := q
  exact p m H σ Ge.refl rh re
theorem s_cont : PS X (.Continue pos) (PS_ (FX X cv fn xs) W sCt) := psImp ps_continue fun D σ H q => by
  obtain ⟨m, e, h, rh, re, p⟩ := q
  exact p m H σ Ge.refl rh re
theorem s_ex (ha : PE X a (PE_ (FX X cv fn xs) W fa)) (hs : swapsWith a none pos.line X.env = pure false) : PS X (.Expr a pos) (PS_ (FX X cv fn xs) W (sEx fa)) :=
  psImp (ps_expr ha hs) fun D σ H q => by
    obtain ⟨m, e, h, rh, re, p⟩ := q
    exact ⟨m, e, h, rh, re, PO.toS re p fun d h1 m1 H1 v g1 rh1 _ p1 => p1 m1 H1 σ Ge.refl rh1 (g1.re re)⟩
theorem s_rt (ha : PE X a (PE_ (FX X cv fn xs) W fa)) : PS X (.Return (some a) pos) (PS_ (FX X cv fn xs) W (sRt fa)) :=
  psImp (ps_ret ha) fun D σ H q => by
    obtain ⟨m, e, h, rh, re, p⟩ := q
    exact ⟨m, e, h, rh, re, PO.toS re p fun d h1 m1 H1 v g1 rh1 r p1 => p1 m1 H1 v Ge.refl rh1 r⟩
theorem s_rtN : PS X (.Return none pos) (PS_ (FX X cv fn xs) W (sRt (dC .non))) :=
  psImp ps_retN fun D σ H q => by
    obtain ⟨m, e, h, rh, re, p⟩ := q
    exact p m H _ Ge.refl rh .non
theorem s_ifS {x y : List Stmt} (hc : PT X c (PT_ (FX X cv fn xs) W t)) (hx : PSs X x (PS_ (FX X cv fn xs) W f)) (hy : PSs X y (PS_ (FX X cv fn xs) W g)) : PS X (.If c x y pos) (PS_ (FX X cv fn xs) W (sIf t f g)) :=
  psImp (ps_if hc hx hy) fun D σ H q => by
    obtain ⟨m, e, h, rh, re, p⟩ := q
    refine ⟨m, e, h, rh, re, PO.toS re p fun k h1 m1 H1 v g1 rh1 r p1 => ?_⟩
    subst r
    cases k with
    | true => rw [if_pos rfl] at p1 ⊢; exact ⟨m1, e, h1, rh1, g1.re re, p1⟩
    | false => rw [if_neg Bool.false_ne_true] at p1 ⊢; exact ⟨m1, e, h1, rh1, g1.re re, p1⟩
def PGD_ (T : Fx) (W : WX) (g : GD) : TG := fun v σ H Q => ∃ m h d e, RH T m h H ∧ RE T m h.length H e σ ∧ RD T.K m h.length H d v ∧ PO T W (fun m N H e1 σ1 => RE T m N H e1 σ1) σ m h H (g d e h) Q
theorem g_of {is : List Nat} {k : Tg} (h : PG X tg (PG_ (FX X cv fn xs) is k)) : PG X tg (PGD_ (FX X cv fn xs) W (ofG k)) := pgImp h fun v σ H Q q => by
  obtain ⟨m, h, d, e, rh, re, rd, p⟩ := q
  unfold ofG at p
  split at p
  · rename_i e1 eg
    exact ⟨m, h, d, e, e1, rh, re, rd, eg, fun σ' re' _ => p.here rh re'⟩
  · exact p.elim
def rSet (T : Fx) : TSet := fun o i v H Q => ∃ (W : WX) (σ : L2.St) (m : Nat → Addr) (h : Hh) (d1 d2 d3 : D), RH T m h H ∧ RD T.K m h.length H d1 o ∧ RD T.K m h.length H d2 i ∧ RD T.K m h.length H d3 v ∧
  PO T W (fun _ _ _ (_ : Unit) (_ : Unit) => True) σ m h H (setD d1 d2 d3 h) fun _ H' => Q H'
theorem o_set : PSet X (rSet (FX X cv fn xs)) := by
  intro pins s σ0 H o i v ov iv u Q I ro ri rv hh
  obtain ⟨W, σ, m, h, d1, d2, d3, rh, r1, r2, r3, p⟩ := hh
  unfold setD at p
  split at p
  · cases r1
    cases r2
    split at p
    · rename_i e
      split at p
      · rename_i j ej
        obtain ⟨hn, vs, q1, q2⟩ := rh.mut e
        obtain ⟨g, rh'⟩ := rh.putL e q1 (q2.set j r3)
        exact set_list pins s σ0 H _ _ v ov iv u Q I ro ri rv ⟨_, _, _, j, rfl, rfl, q1, by rw [← q2.length]; exact ej, p m _ () g rh' trivial⟩
      · exact p.elim
    · exact p.elim
  · exact p.elim
theorem g_ix {o i : Expr} {fo fi : ED} (ho : PE X o (PE_ (FX X cv fn xs) W fo)) (hi : PE X i (PE_ (FX X cv fn xs) W fi)) (ha : ∀ v, assign (.Subscript o i pos) X.env v = (do
      let ov ← holding [v] (eval o X.env)
      let iv ← holding [v, ov] (eval i X.env)
      standAt pos
      holding [v, ov, iv] (setItem ov iv v)
      release [v, ov, iv] [])) : PG X (.Subscript o i pos) (PGD_ (FX X cv fn xs) W (gIx fo fi)) :=
  pgImp (pg_sub ho hi o_set ha) fun v σ H Q q => by
    obtain ⟨m, h, d, e, rh, re, rd, p⟩ := q
    refine ⟨m, e, h, rh, re, p.bind fun x h1 m1 H1 xv g1 rh1 rx p1 => ⟨m1, e, h1, rh1, g1.re re, p1.bind fun y h2 m2 H2 yv g2 rh2 ry p2 => ?_⟩⟩
    refine ⟨W, σ, m2, h2, x, y, d, rh2, g2.rd rx, ry, (g1.trans g2).rd rd, p2.bind fun _ h3 m3 H3 _ g3 rh3 _ p3 => ?_⟩
    exact p3.here rh3 (((g1.trans g2).trans g3).re re)
theorem as_rd {D : Ends} {σ : L2.St} {H : Hp} {k : GD} (q : PS_ (FX X cv fn xs) W (sAs fa k) D σ H) : PE_ (FX X cv fn xs) W fa σ H fun x H1 => PGD_ (FX X cv fn xs) W k x σ H1 D.nx := by
  obtain ⟨m, e, h, rh, re, p⟩ := q
  refine ⟨m, e, h, rh, re, PO.toS re p fun d h1 m1 H1 v g1 rh1 r p1 => ⟨m1, h1, d, e, rh1, g1.re re, r, PO.toS (g1.re re) p1 fun e1 h2 m2 H2 σ2 g2 rh2 re2 p2 => ?_⟩⟩
  exact p2 m2 H2 σ2 Ge.refl rh2 re2
theorem s_as {k : GD} (ha : PE X a (PE_ (FX X cv fn xs) W fa)) (hg : PG X tg (PGD_ (FX X cv fn xs) W k)) (hs : swapsWithSole [tg] a pos.line X.env = pure false) (hw : swappedStores [tg] a X.env = pure none)
    (h1 : (assignEach [tg] X.env).map (·.2) = [assign tg X.env]) : PS X (.Assign [tg] a pos) (PS_ (FX X cv fn xs) W (sAs fa k)) :=
  psImp (ps_asg ha hg hs hw h1) fun D σ H q => as_rd q
theorem s_asLc {el it : Expr} {ifs : List Expr} {scope : Scope} {own : List (Str × Nat)} {fi : ID} {k : Tg} {is : List Nat} {fe : ED} {tt : TD} {i : Nat} {y : Str} {py spos : Pos} (hx : xs = none) (hc : X.calm = true) (hN : X.N.Nodup) (hy : X.N[i]? = some y) (hyl : X.env.scope.names.lookup y = some .local)
    (hsw : swapsWith (.ListComp el [⟨tg, it, ifs, 0⟩] scope pos) (some (.Name y py)) spos.line X.env = pure true) (hi : PI X tg it (PI_ (FX X cv fn xs) W fi)) (ok : BlkOk X.N X.env.scope scope own)
    (hg : ∀ (s : Shared) (H : Hp) (C : Addr) (cl : List (Str × Addr)) (fp : List Addr), PG (X.blk s H scope (compEnvC scope cl C X.env) fp) tg (PG_ (FX X cv fn xs) is k))
    (ht : ∀ (s : Shared) (H : Hp) (C : Addr) (cl : List (Str × Addr)) (fp : List Addr), PTs (X.blk s H scope (compEnvC scope cl C X.env) fp) ifs (PT_ (FX X cv fn xs) (fun _ _ _ _ => False) tt))
    (he : ∀ (s : Shared) (H : Hp) (C : Addr) (cl : List (Str × Addr)) (fp : List Addr), PE (X.blk s H scope (compEnvC scope cl C X.env) fp) el (PE_ (FX X cv fn xs) (fun _ _ _ _ => False) fe))
    (hio : ∀ i ∈ is, i ∈ own.map (·.2)) (hs : ∀ x, foldedSetIterable it X.env x = pure x) :
    PS X (.Assign [.Name y py] (.ListComp el [⟨tg, it, ifs, 0⟩] scope pos) spos) (PS_ (FX X cv fn xs) W (sAs (dLc fi k tt fe (own.map (·.2))) (ofG (gN i)))) :=
  psImp (ps_setLc hc hN hy hyl hsw hi ok hg ht he hs) fun D σ H q => by
    have q1 := as_rd q
    obtain ⟨m, e, h, rh, re, p⟩ := q1
    refine s_lc hx hc hN hi ok hg ht he hio hs (Q := fun x H1 => gName i x σ H1 D.nx) ⟨m, e, h, rh, re, ?_⟩
    have w : ∀ {r : R Mn.D}, PO (FX X cv fn xs) W (rdR (FX X cv fn xs)) σ m h H r (fun x H1 => PGD_ (FX X cv fn xs) W (ofG (gN i)) x σ H1 D.nx) → PO (FX X cv fn xs) W (rdR (FX X cv fn xs)) σ m h H r (fun x H1 => gName i x σ H1 D.nx) := fun {r} p => by
      cases r with
      | stuck => exact p
      | exc x h1 => exact p
      | ok d h1 =>
        intro m1 H1 v g1 rh1 r1
        obtain ⟨m2, h2, d2, e2, rh2, re2, rd2, p2⟩ := p m1 H1 v g1 rh1 r1
        exact p2 m2 H1 _ Ge.refl rh2 (re2.set i (fun j a h => by rw [show xs = some (j, a) from h] at hx; cases hx) rd2)
    exact w p
theorem for_imp {fi : ID} {k : Tg} {is : List Nat} {D : Ends} {σ : L2.St} {H : Hp} (q : PS_ (FX X cv fn xs) W (sFor fi k f) D σ H) : tFor (PI_ (FX X cv fn xs) W fi) (PG_ (FX X cv fn xs) is k) (PS_ (FX X cv fn xs) W f) D σ H := by
  obtain ⟨m, e, h, rh, re, p⟩ := q
  refine ⟨m, e, h, rh, re, PO.toS re p fun sq h1 m1 H1 J g1 rh1 wk p1 => ?_⟩
  refine ⟨fun i n σ H => n = sq.items.length - i ∧ i ≤ sq.items.length ∧ ∃ m e h, RH (FX X cv fn xs) m h H ∧ RE (FX X cv fn xs) m h.length H e σ ∧ Ge m1 h1 H1 m h H ∧
    PSo (FX X cv fn xs) W D m h H (forGo sq.src k f (sq.items.drop i) e h), ⟨_, rfl, Nat.zero_le _, m1, e, h1, rh1, g1.re re, Ge.refl, p1⟩, ?_⟩
  rintro i n σ3 H3 ⟨rfl, hi3, m3, e3, h3, rh3, re3, g3, p3⟩
  have wk3 := wk m3 h3 H3 rh3 g3.eq g3.le g3.tk
  by_cases hlt : i < sq.items.length
  · right
    rw [List.drop_eq_getElem_cons hlt] at p3
    unfold forGo at p3
    split at p3
    · rename_i hok
      obtain ⟨go, _, yl⟩ := wk3 hok
      refine ⟨go i hlt, fun σ' H' => (fun n σ H => n = sq.items.length - (i + 1) ∧ i + 1 ≤ sq.items.length ∧ ∃ m e h, RH (FX X cv fn xs) m h H ∧ RE (FX X cv fn xs) m h.length H e σ ∧ Ge m1 h1 H1 m h H ∧
        PSo (FX X cv fn xs) W D m h H (forGo sq.src k f (sq.items.drop (i + 1)) e h)) (sq.items.length - (i + 1)) σ' H', fun σ' H' w => ⟨_, by omega, w⟩, fun x H4 y => ?_⟩
      obtain ⟨d, ed, g4, rh4, rd4⟩ := yl i x H4 hlt y
      rw [List.getElem?_eq_getElem hlt] at ed
      cases ed
      have p4 := p3.base g4
      split at p4
      · rename_i e4 eg
        refine ⟨m3, h3, _, _, e4, rh4, g4.re re3, rd4, eg, fun σ' re' _ => ⟨m3, e4, h3, rh4, re', ?_⟩⟩
        cases qf : f e4 h3 with
        | stuck => rw [qf] at p4; exact p4
        | exc x e5 h5 => rw [qf] at p4; exact p4
        | go fl e5 h5 =>
          rw [qf] at p4
          cases fl with
          | nx => exact fun m5 H5 σ5 g5 rh5 re5 => ⟨rfl, hlt, m5, e5, h5, rh5, re5, (g3.trans g4).trans g5, PSo.base (r := forGo sq.src k f (sq.items.drop (i + 1)) e5 h5) p4 g5⟩
          | ct => exact fun m5 H5 σ5 g5 rh5 re5 => ⟨rfl, hlt, m5, e5, h5, rh5, re5, (g3.trans g4).trans g5, PSo.base (r := forGo sq.src k f (sq.items.drop (i + 1)) e5 h5) p4 g5⟩
          | bk => exact p4
          | rt d => exact p4
      · exact p4.elim
    · exact p3.elim
  · have ei : i = sq.items.length := by omega
    subst ei
    left
    rw [List.drop_length] at p3
    unfold forGo at p3
    split at p3
    · rename_i hok
      obtain ⟨_, st, _⟩ := wk3 hok
      exact ⟨st, p3 m3 H3 σ3 Ge.refl rh3 re3⟩
    · exact p3.elim
theorem s_for {it : Expr} {body : List Stmt} {fi : ID} {k : Tg} {is : List Nat} (hp : PassesOwn (model X.prog X.w) X.A X.env X.xe) (hc : X.calm = true) (hi : PI X tg it (PI_ (FX X cv fn xs) W fi)) (hg : PG X tg (PG_ (FX X cv fn xs) is k)) (hb : PSs X body (PS_ (FX X cv fn xs) W f))
    (hs : ∀ x, foldedSetIterable it X.env x = pure x) : PS X (.For tg it body [] pos) (PS_ (FX X cv fn xs) W (sFor fi k f)) :=
  psImp (ps_for hp hc hi hg hb hs) fun D σ H q => for_imp q
theorem s_while {body : List Stmt} (n : Nat) (hp : PassesOwn (model X.prog X.w) X.A X.env X.xe) (hc : PT X c (PT_ (FX X cv fn xs) W t)) (hb : PSs X body (PS_ (FX X cv fn xs) W f)) : PS X (.While c body [] pos) (PS_ (FX X cv fn xs) W (whGo t f n)) :=
  psImp (ps_while hp hc hb) fun D σ H q => by
    refine ⟨fun n σ H => PS_ (FX X cv fn xs) W (whGo t f n) D σ H, ⟨n, q⟩, ?_⟩
    intro n σ H q
    obtain ⟨m, e, h, rh, re, p⟩ := q
    cases n with
    | zero => exact p.elim
    | succ n =>
      refine ⟨m, e, h, rh, re, PO.toS re p fun k h1 m1 H1 v g1 rh1 r p1 => ?_⟩
      subst r
      cases k with
      | false => rw [if_neg Bool.false_ne_true] at p1 ⊢; exact p1 m1 H1 σ Ge.refl rh1 (g1.re re)
      | true =>
        rw [if_pos rfl] at p1 ⊢
        refine ⟨fun σ' H' => PS_ (FX X cv fn xs) W (whGo t f n) D σ' H', fun σ' H' w => ⟨n, Nat.lt_succ_self _, w⟩, m1, e, h1, rh1, g1.re re, ?_⟩
        cases qf : f e h1 with
        | stuck => simp only [qf] at p1; exact p1
        | exc x e5 h5 => simp only [qf] at p1; exact p1
        | go fl e5 h5 =>
          simp only [qf] at p1
          cases fl with
          | nx => exact fun m5 H5 σ5 g5 rh5 re5 => ⟨m5, e5, h5, rh5, re5, PSo.base (r := whGo t f n e5 h5) p1 g5⟩
          | ct => exact fun m5 H5 σ5 g5 rh5 re5 => ⟨m5, e5, h5, rh5, re5, PSo.base (r := whGo t f n e5 h5) p1 g5⟩
          | bk => exact p1
          | rt d => exact p1
theorem pmk0 {C : Addr} {bmB : List Value} {B newId initId : String} {x : Str} {p : Pos} (F : ExcBaseFacts B newId initId bmB) (q : PySem.W.excIn X.K C bmB newId = true) (gC : X.mg x = some (.ref C)) (kC : PySem.W.keepIn X.K (.ref C) = true) (r : Raises X (.ref C)) (hg : Gl X x)
    (hdb : (x == ("__debug__" : Str)) = false) : PMk X (.Call (.Name x p) [] [] pos) (fun _ H Q => Q (.ref C) none H) := by
  intro pins s σ H Q I h
  refine wpAny_Call_Name_kw (ld_glob I hg gC ?_ hdb)
  refine PySem.W.callWith_K0 I.kIn kC ?_
  obtain ⟨bm, N, nm, qn, bs, hdct, sn, sub, ab, col, dd, k0, k1, k2, k3, k5, mN, hC, hN, hni, T⟩ := exc_obj I.kIn q
  obtain ⟨hp, gg, dr, tk, os⟩ := s
  exact wpAny_call_exc_subT F T hC hN hni (fun h' e hm => mk_of I hm r h (I.hok.gone hm.new)) (by rw [List.append_nil, sizeLine_eq]; exact Nat.zero_le _)
theorem s_raise {cl : Nat} {C : Addr} (hx : xs = none) (hc : X.calm = true) (tk : Takes X W) (ecv : cv cl = .ref C) (hp : PMk X a (fun _ H Q => Q (.ref C) none H)) : PS X (.Raise (some a) none pos) (PS_ (FX X cv fn xs) W (sRaise cl)) :=
  psImp (ps_raise hc tk hp) fun D σ H q => by
    obtain ⟨m, e, h, rh, re, p⟩ := q
    exact p m H σ (.ref C) none Ge.refl rh re ⟨ecv.symm, fun _ => rfl, fun z => absurd rfl z⟩
theorem s_try {body suite : List Stmt} {b₀ : Stmt} {n : Str} {i : Nat} {x : Str} {np pos' : Pos} {sub : Nat → Nat → Option Bool} {hd : Nat} {fs : Xc → SD} (hx : xs = none) (hs : X.stack = X.env :: X.outer) (hf : X.env.frame = some X.env.locals) (hN : X.N.Nodup) (hi : X.N[i]? = some n) (hln : X.env.kindOf n = some .local)
    (hc : Names X x (cv hd)) (tk : Takes X W) (hsub : ∀ c1 c2 b, sub c1 c2 = some b → PySem.W.exmOne X.K (cv c1) (cv c2) = some b)
    (hb : ∀ (W : WX) (pn : List (Addr × Obj)) (xe : Value → Shared → Prop), Takes (X.tr pn xe) W → PassesOwn (model X.prog X.w) X.A X.env xe → PSs (X.tr pn xe) body (PS_ (FX X cv fn xs) W f))
    (hsu : ∀ (a : Addr) (oe : Obj) (x : Xc) (d : Option Addr) (pn : List (Addr × Obj)), Zc (cv x.cls) d oe → (∃ vs, oe.data = .fields vs) → (x.fs = [] → d = none) → PSs (X.suite a ((a, oe) :: pn)) (b₀ :: suite) (PS_ (FX X cv fn (some (i, a, x, d))) (fun _ _ _ _ => False) (fs x))) :
    PS X (.Try body [.ExceptHandler (some (.Name x np)) (some n) (b₀ :: suite) pos'] [] [] pos) (PS_ (FX X cv fn xs) W (sTry sub f ⟨hd, some i, fs⟩)) := by
  subst hx
  refine psImp (ps_try_as (ts := fun a cls d D σ H => ∃ y : Xc, cls = cv y.cls ∧ (y.fs = [] → d = none) ∧ PS_ (FX X cv fn (some (i, a, y, d))) (fun _ _ _ _ => False) (fs y) D σ H) hs hf hN hi hln hc tk hb
    fun a oe cls d pn hz hfl => ⟨fun pins s σ H D I q => ?_⟩) fun D σ H q => ?_
  · obtain ⟨y, e1, e2, q⟩ := q
    subst e1
    exact (hsu a oe y d pn hz hfl e2).run pins s σ H D I q
  · obtain ⟨m, e, h, rh, re, p⟩ := q
    refine ⟨m, e, h, rh, re, ?_⟩
    unfold sTry at p
    cases qf : f e h with
    | stuck => rw [qf] at p; exact p
    | go fl e1 h1 => rw [qf] at p; exact p.flow
    | exc y e1 h1 =>
      rw [qf] at p
      intro m1 H1 σ1 cls dd g1 rh1 re1 rx
      simp only at p
      cases qs : sub y.cls hd with
      | none => rw [qs] at p; exact p.elim
      | some k =>
        rw [qs] at p
        obtain ⟨ec, rx'⟩ := rx
        refine ⟨k, by rw [ec]; exact hsub _ _ _ qs, fun ek ad had => ?_, fun ek => ?_⟩
        · subst ek
          simp only at p
          by_cases hok : slotOk e1 (some i) = true
          case neg => rw [if_neg hok] at p; exact p.elim
          rw [if_pos hok] at p
          have hi' : i < σ1.length := by
            rw [← re1.len]
            exact of_decide_eq_true hok
          refine ⟨y, ec, rx'.1, m1, e1.set i none, h1, rh1.ex, ⟨?_, fun j d hj => ?_, fun j b y' d' hj => ?_⟩, ?_⟩
          · rw [List.length_set, List.length_set]; exact re1.len
          · by_cases hij : i = j
            · subst hij
              by_cases hl : i < e1.length
              · rw [List.getElem?_set_self hl] at hj; cases hj
              · rw [List.getElem?_eq_none (by rw [List.length_set]; omega)] at hj; cases hj
            · rw [List.getElem?_set_ne hij] at hj ⊢
              exact re1.at_ j d hj
          · cases hj
            exact ⟨List.getElem?_set_self hi', rx'⟩
          · have p1 := PSo.base p g1
            cases qg : fs y (e1.set i none) h1 with
            | stuck => simp only [clr, qg] at p1; exact p1.elim
            | exc x e2 h2 => simp only [clr, qg] at p1; exact p1.elim
            | go fl e2 h2 =>
              simp only [clr, qg] at p1
              have back : ∀ {m' : Nat → Addr} {N : Nat} {H' : Hp} {σ' : L2.St}, RE (FX X cv fn (some (i, ad, y, dd))) m' N H' e2 σ' → RE (FX X cv fn none) m' N H' (e2.set i none) (σ'.set i none) := fun {m' N H' σ'} r =>
                RE.drop1 (T := FX X cv fn none) ⟨r.len, r.at_, fun _ _ _ _ z => by cases z⟩ i (fun _ _ z => by cases z) none
              cases fl with
              | nx => exact fun m2 H2 σ2 g2 rh2 re2 => p1 m2 H2 _ g2 rh2.ex (back re2)
              | bk => exact fun m2 H2 σ2 g2 rh2 re2 => p1 m2 H2 _ g2 rh2.ex (back re2)
              | ct => exact fun m2 H2 σ2 g2 rh2 re2 => p1 m2 H2 _ g2 rh2.ex (back re2)
              | rt d => exact fun m2 H2 v2 g2 rh2 re2 => p1 m2 H2 _ g2 rh2.ex re2
        · subst ek
          exact p m1 H1 σ1 cls dd g1 rh1 re1 ⟨ec, rx'⟩
end
end Mn
namespace Mn
open PySem PySem.Spec PyProof.Rows
section
variable {pr : Program} {wd : World} {A0 : Around} {s0 : Shared} {Rz : Result → Shared → Prop}
abbrev RevIt (items : Array Value) : Nat → Value → Prop := fun i v => items[items.size - 1 - i]? = some v
theorem ext_rev {S J l : Addr} {items : Array Value} {c0 : Nat} (hh : A0.handled = none) (oS : s0.heap.get? S = some { cls := .type "list", data := .seq #[] c0 }) (oJ : s0.heap.IsRevIter J l ((items.size : Int) - 1))
    (ol : s0.heap.IsList l items) (n1 : l ≠ J) (n2 : S ≠ J) (n3 : S ≠ l) (hz : items.size ≤ sizeLine)
    (k : ∀ (h' : Heap) (t' : Nat) (acc : Array Value) (c' : Nat), (∀ b o, b ≠ S → b ≠ J → s0.heap.get? b = some o → h'.get? b = some o) → h'.get? S = some { cls := .type "list", dict := none, data := .seq acc c', slots := #[] } → ItemsOf (RevIt items) acc items.size →
      Rz (.ok (.ret .none)) { s0 with heap := h', toks := t' }) :
    wpAny (model pr wd) A0.in1 (Builtin.List.listExtendWith (.ref S) (.ref J) .none)
      (fun fin s' => match fin with | .done f => Rz (.ok f) s' | .again c' => c'.quiet = true ∧ codeAny (model pr wd) A0 c' Rz s') (fun e s' => Rz (.error e) s') s0 := by
  have Wk := (Walks.listRev (prog := pr) (w := wd) (A := A0.in1) hh J l n1 items).toS
  have nf : S ∉ [J, l] := by
    simp only [List.mem_cons, List.not_mem_nil, or_false, not_or]
    exact ⟨n2, n3⟩
  have tJ : s0.TypeIs (.ref J) "list_reverseiterator" := Heap.IsRevIter.typeIs oJ
  have same : Builtin.List.listSameRef (.ref S) (.ref J) = false := by simp [Builtin.List.listSameRef, n2]
  have ez : ((items.size : Nat) : Int) - 1 - ((0 : Nat) : Int) = (items.size : Int) - 1 := by omega
  unfold Builtin.List.listExtendWith
  refine wpAny_bind (wpAny_typeOf tJ ?_)
  rw [if_neg (by rw [same]; decide)]
  refine wpAny_bind (wpAny_pyIter_revIter oJ ?_)
  refine wpAny_bind (wpAny_holding ?_)
  unfold Builtin.List.listLengthHint
  refine wpAny_bind (wpAny_specialOf tJ RT.nolen_lri ?_)
  show wpAny _ A0.in1 (specialOf (Value.ref J) (Str.ofString "__length_hint__") >>= _) _ _ _
  refine wpAny_bind (wpAny_specialOf tJ RT.hint_lri ?_)
  generalize hid : ("list_reverseiterator.__length_hint__" : String) = i0
  wp_delta
  rw [show splitId i0 = some ("list_reverseiterator", "__length_hint__") from by subst hid; decide +kernel]
  subst hid
  refine wpAny_bind (wpAny_isInstance (b := true) tJ (by rw [isSubtype_type]; kernel_rfl) ?_)
  refine wpAny_pure ?_
  rw [if_neg (by decide)]
  refine wpAny_pure ⟨plainId_quiet F.plain_extend_loop _, ?_⟩
  refine codeAny_extend_loopS Wk hz S nf .none items.size 0 _ _ _ rfl (Nat.zero_le _) ⟨Nat.zero_le _, by rw [ez]; exact oJ, ol⟩ oS (ItemsOf.nil _) fun s' acc c' mv oS' it => ?_
  rw [Moved.eq_with mv]
  refine k _ _ acc c' (fun b o b1 b2 e => mv.heap b o (fun z => ?_) e) oS' it
  rcases List.mem_cons.mp z with z | z
  · exact b1 z
  · exact b2 (List.mem_singleton.mp z)
theorem call_list_revIt {J l : Addr} {items : Array Value} {Qv : Value → Shared → Prop} {Ev : Value → Shared → Prop} (hh : A0.handled = none) (oJ : s0.heap.IsRevIter J l ((items.size : Int) - 1)) (ol : s0.heap.IsList l items) (n1 : l ≠ J) (hz : items.size ≤ sizeLine)
    (k : ∀ (h' : Heap) (t' : Nat) (acc : Array Value) (c' : Nat), (∀ b o, b ≠ J → s0.heap.get? b = some o → h'.get? b = some o) → h'.get? s0.heap.objs.size = some { cls := .type "list", dict := none, data := .seq acc c', slots := #[] } → ItemsOf (RevIt items) acc items.size →
      Qv (.ref s0.heap.objs.size) { s0 with heap := h', toks := t' }) : wpAny (model pr wd) A0 (call (.type "list") [.ref J]) Qv Ev s0 := by
  obtain ⟨uJ, gJ, _⟩ := id oJ
  obtain ⟨ul, gl, _⟩ := id ol
  have m2 : s0.heap.objs.size ≠ J := Nat.ne_of_gt (Heap.lt_size gJ)
  have m3 : s0.heap.objs.size ≠ l := Nat.ne_of_gt (Heap.lt_size gl)
  refine callType_codes (Q₁ := fun ob sb => ob = .ref s0.heap.objs.size ∧ sb = { s0 with heap := s0.heap.push { cls := .type "list", data := .seq #[] } }) F.called_list (F.typeCall_list_1 _) F.entry_list_init (code_list_new _ ⟨rfl, rfl⟩) fun ob sb e12 => ?_
  obtain ⟨e1, e2⟩ := e12
  subst e1; subst e2
  have g0 : (s0.heap.push { cls := .type "list", data := .seq #[] }).get? s0.heap.objs.size = some { cls := .type "list", data := .seq #[] } := Heap.get?_push_size _ rfl
  refine ⟨⟨_, g0, rfl⟩, F.args_list_init_2 _ _, ?_⟩
  show wpAny _ _ (Builtin.List.listItems (.ref s0.heap.objs.size) >>= fun old => Builtin.List.listUpdate (.ref s0.heap.objs.size) (fun _ => #[]) >>= fun _ => letGo old.toList.reverse >>= fun _ => Builtin.List.listExtendWith (.ref s0.heap.objs.size) (.ref J) .none) _ _ _
  refine wpAny_bind ?_
  unfold Builtin.List.listItems
  refine wpAny_bind (wpAny_seqItems g0 rfl (wpAny_pure ?_))
  refine wpAny_bind ?_
  show wpAny _ _ (updateSeq s0.heap.objs.size (fun _ => #[])) _ _ _
  refine wpAny_updateSeq g0 rfl ?_
  have g1 := Heap.get?_update_self (Obj.mapSeq (fun _ => (#[] : Array Value))) g0 rfl
  have far : ∀ b o, b ≠ s0.heap.objs.size → s0.heap.get? b = some o → ((s0.heap.push { cls := .type "list", data := .seq #[] }).update s0.heap.objs.size (Obj.mapSeq (fun _ => (#[] : Array Value)))).get? b = some o :=
    fun b o hb e => (Heap.get?_update_other _ _ (Ne.symm hb)).trans (Heap.get?_push_of_some _ e)
  refine wpAny_bind (wpAny_letGo ?_)
  refine ext_rev (A0 := A0.in1) hh g1 (oJ.at fun o e => far J o (Ne.symm m2) e) (ol.at fun o e => far l o (Ne.symm m3) e) n1 m2 m3 hz fun h' t' acc c' kp gS it => ?_
  exact ⟨rfl, k h' t' acc c' (fun b o b1 e => kp b o (fun z => by rw [z] at e; exact absurd (Heap.lt_size e) (Nat.lt_irrefl _)) b1 (far b o (fun z => by rw [z] at e; exact absurd (Heap.lt_size e) (Nat.lt_irrefl _)) e)) gS it⟩
end
open L2
theorem vals_back {ys : List V} {us : List Value} (r : Vals ys us) {acc : Array Value} (it : ItemsOf (RevIt us.toArray) acc us.toArray.size) : Vals ys.reverse acc.toList := RT.vals_rev r it
def tLRev (K : PySem.W.Frag) (te : TE) : TE := fun σ H Q => te σ H fun v H1 => ∃ (a : Addr) (ys : List V), v = .ref a ∧ SqL K H1 a ys ∧ ∀ q, H1 q = none → Q (.ref q) (upd H1 q (.lst ys.reverse))
theorem pe_lRev {X : Cx} {e : Expr} {te : TE} {p p2 pos pos2 : Pos} (hc : X.calm = true) (hg : Gl X "list") (hm : X.mg "list" = none) (hg2 : Gl X "reversed") (hm2 : X.mg "reversed" = none) (he : PE X e te)
    (hs : starEach [e] X.env = (false, eval e X.env) :: starEach [] X.env) :
    PE X (.Call (.Name "list" p) [.Call (.Name "reversed" p2) [e] [] pos2] [] pos) (tLRev X.K te) := by
  have hs2 : starEach [.Call (.Name "reversed" p2) [e] [] pos2] X.env = (false, eval (.Call (.Name "reversed" p2) [e] [] pos2) X.env) :: starEach [] X.env := rfl
  constructor
  intro pins s σ H Q I h
  refine Call_ (ld_blt I hg hm boot_list (PyProof.Rows.callWith_type1 (args_cons (Call_ (ld_blt I hg2 hm2 PyProof.Rows.boot_reversed (PyProof.Rows.callWith_type1 (args_cons (thn (he.run pins s σ H _ I h) fun u s1 ⟨v, H1, I1, r1, z⟩ => args_nil ?_) hs) hs rfl))) hs2) hs2 rfl))
  obtain ⟨a, ys, ev, sq, z⟩ := z
  subst ev
  cases r1
  obtain ⟨us, rv, pl, hz⟩ := I1.list sq
  have ol := pl.isList
  obtain ⟨oa, ga, _⟩ := id ol
  have hn : us.toArray.size ≤ sizeLine := by rw [List.size_toArray, ← rv.length]; exact hz
  refine call_reversed_list ol (args_nil ?_)
  have na : a ≠ s1.heap.objs.size := Nat.ne_of_lt (Heap.lt_size ga)
  refine call_list_revIt (s0 := { s1 with heap := s1.heap.push (revObj a ((us.toArray.size : Int) - 1)) }) (I1.ok.hd hc) ⟨_, Heap.get?_push_size _ rfl, rfl, rfl⟩ (ol.push _) na hn fun h' t' acc c' kp gS it => ?_
  have kp' : ∀ b o, s1.heap.get? b = some o → h'.get? b = some o := fun b o eo => kp b o (Nat.ne_of_lt (Heap.lt_size eo)) (Heap.get?_push_of_some _ eo)
  have sz : s1.heap.objs.size ≤ (s1.heap.push (revObj a ((us.toArray.size : Int) - 1))).objs.size := by rw [Heap.size_push]; omega
  refine ⟨.ref _, _, I1.laid (t' := t') kp' sz (o := .lst ys.reverse) ⟨by rw [List.length_reverse]; exact hz, acc.toList, c', vals_back rv it, ?_⟩, rfl, z _ (I1.hok.fresh sz)⟩
  rw [Array.toArray_toList]
  exact gS
end Mn
namespace Mn
open PySem L2
theorem RDs.strs {K : PySem.W.Frag} {m : Nat → Addr} {N : Nat} {H : Hp} : ∀ l : List Str, RDs K m N H (l.map .str) (l.map .str)
  | [] => .nil
  | s :: l => .cons (.str s) (RDs.strs l)
theorem RDs.intsD {K : PySem.W.Frag} {m : Nat → Addr} {N : Nat} {H : Hp} : ∀ l : List Int, RDs K m N H (l.map .int) (l.map .int)
  | [] => .nil
  | s :: l => .cons (.int s) (RDs.intsD l)
theorem RDs.erase {K : PySem.W.Frag} {m : Nat → Addr} {N : Nat} {H : Hp} : ∀ {ds : List D} {vs : List V} (j : Nat), RDs K m N H ds vs → RDs K m N H (ds.eraseIdx j) (vs.eraseIdx j)
  | _, _, _, .nil => .nil
  | _, _, 0, .cons _ r => r
  | _, _, j + 1, .cons a r => .cons a (RDs.erase j r)
theorem RDs.cut {K : PySem.W.Frag} {m : Nat → Addr} {N : Nat} {H : Hp} {ds : List D} {vs : List V} (lo hi : Option Int) (r : RDs K m N H ds vs) : RDs K m N H (cutD ds lo hi) (cutV vs lo hi) := by
  unfold cutD cutV
  rw [r.length]
  exact (r.drop _).take _
theorem strsOf_rd {K : PySem.W.Frag} {m : Nat → Addr} {N : Nat} {H : Hp} : ∀ {ds : List D} {vs : List V} {ys : List Str}, RDs K m N H ds vs → strsOf ds = some ys → vs = ys.map .str
  | _, _, ys, .nil, e => by cases e; rfl
  | _, _, ys, .cons (d := d) a r, e => by
    cases a <;> first | (cases e; done) | skip
    rename_i s
    change (strsOf _).map _ = _ at e
    cases q : strsOf (_ : List D) with
    | none => rw [q] at e; cases e
    | some zs => rw [q] at e; cases e; rw [strsOf_rd r q]; rfl
section
variable {X : Cx} {cv : Nat → Value} {fn : Nat → Str} {xs : Xs} {W : WX} {pos : Pos} {a b c : Expr} {fa fb fc : ED}
def r3 (T : Fx) (g : D → Option Int → Option Int → Hh → R D) : V → Option Int → Option Int → Hp → VK → Prop := fun x lo hi H Q => ∃ (W : WX) (σ : L2.St) (m : Nat → Addr) (h : Hh) (d : D), RH T m h H ∧ RD T.K m h.length H d x ∧ PO T W (rdR T) σ m h H (g d lo hi h) Q
theorem o_sl : SlR X (r3 (FX X cv fn xs) slD) := by
  intro pins s σ0 H x v vl vu lo hi sl Q I rx hs pl pu hh
  obtain ⟨W, σ, m, h, d, rh, rd, p⟩ := hh
  unfold slD at p
  split at p
  · cases rd
    split at p
    · rename_i e
      obtain ⟨_, vs, sq, q⟩ := rh.lst e
      exact sl_list pins s σ0 H _ v vl vu lo hi sl Q I rx hs pl pu ⟨_, _, rfl, sq, p.new rh (q.cut lo hi)⟩
    · exact p.elim
  · cases rd with
    | tup sq q =>
      refine sl_tupA pins s σ0 H _ v vl vu lo hi sl Q I rx hs pl pu ⟨_, _, rfl, sq, fun z => ?_, fun _ => p.newT rh (q.cut lo hi)⟩
      rename_i ds aa vs
      have e : cutD ds lo hi = ds := by
        unfold cutD
        rw [q.length, z.1, z.2, List.drop_zero, ← q.length, Nat.sub_zero, List.take_length]
      rw [e] at p
      exact p.here rh (.tup sq q)
  · cases rd
    split at p
    · rename_i hz
      exact sl_str pins s σ0 H _ v vl vu lo hi sl Q I rx hs pl pu ⟨_, rfl, by rw [sizeLine_eq]; exact hz, p.here rh (.str _)⟩
    · exact p.elim
  · exact p.elim
def OO_ (T : Fx) (W : WX) (f : OD) : TO := fun σ H Q => ∃ m e h, RH T m h H ∧ RE T m h.length H e σ ∧ PO T W (fun _ _ _ d v => d = v) σ m h H (f e h) Q
theorem poImp {e : Option Expr} {t t' : TO} (h : L2.PO X e t) (w : ∀ σ H Q, t' σ H Q → t σ H Q) : L2.PO X e t' := ⟨fun pins s σ H Q I q => h.run pins s σ H Q I (w σ H Q q)⟩
theorem s_oN : L2.PO X none (OO_ (FX X cv fn xs) W oN) := poImp po_none fun σ H Q q => by
  obtain ⟨m, e, h, rh, re, p⟩ := q
  exact p.here rh rfl
theorem s_oS (ha : PE X a (PE_ (FX X cv fn xs) W fa)) : L2.PO X (some a) (OO_ (FX X cv fn xs) W (oS fa)) := poImp (po_some ha) fun σ H Q q => by
  obtain ⟨m, e, h, rh, re, p⟩ := q
  refine ⟨m, e, h, rh, re, p.bind fun x h1 m1 H1 v g1 rh1 r1 p1 => ?_⟩
  split at p1
  · cases r1
    exact ⟨_, rfl, p1.here rh1 rfl⟩
  · exact p1.elim
theorem s_sl {lo hi : Option Expr} {fl fh : OD} {p2 : Pos} (ha : PE X a (PE_ (FX X cv fn xs) W fa)) (hl : L2.PO X lo (OO_ (FX X cv fn xs) W fl)) (hh : L2.PO X hi (OO_ (FX X cv fn xs) W fh)) : PE X (.Subscript a (.Slice lo hi none p2) pos) (PE_ (FX X cv fn xs) W (dSl fa fl fh)) :=
  peImp (pe_slice o_sl ha hl hh) fun σ H Q q => by
    obtain ⟨m, e, h, rh, re, p⟩ := q
    refine ⟨m, e, h, rh, re, p.bind fun x h1 m1 H1 v g1 rh1 r1 p1 => ⟨m1, e, h1, rh1, g1.re re, p1.bind fun l h2 m2 H2 l' g2 rh2 r2 p2 => ⟨m2, e, h2, rh2, g2.re (g1.re re), p2.bind fun u h3 m3 H3 u' g3 rh3 r3 p3 => ?_⟩⟩⟩
    subst r2; subst r3
    exact ⟨W, σ, m3, h3, x, rh3, (g2.trans g3).rd r1, p3⟩
theorem m_rev : MtR X "list.reverse" (rM (FX X cv fn xs) mRev) := by
  intro pins s σ0 H x xs v us Q I rx rs hh
  obtain ⟨W, σ, m, h, d, ds, rh, rd, rds, p⟩ := hh
  unfold mRev at p
  split at p
  · cases rd
    cases rds
    split at p
    · rename_i e
      obtain ⟨hl, vs, q1, q2⟩ := rh.mut e
      obtain ⟨g, rh'⟩ := rh.putL e q1 q2.reverse
      exact mt_reverse pins s σ0 H _ _ v us Q I rx rs ⟨_, _, rfl, rfl, q1, p m _ _ g rh' .non⟩
    · exact p.elim
  · exact p.elim
theorem m_popAt : MtR X "list.pop" (rM (FX X cv fn xs) mPopAt) := by
  intro pins s σ0 H x xs v us Q I rx rs hh
  obtain ⟨W, σ, m, h, d, ds, rh, rd, rds, p⟩ := hh
  unfold mPopAt at p
  split at p
  · cases rd
    obtain ⟨y, rfl, ry⟩ := rds1 rds
    cases ry
    split at p
    · rename_i e
      split at p
      · rename_i hb
        split at p
        · rename_i j ej
          split at p
          · rename_i y ey
            obtain ⟨hl, vs, q1, q2⟩ := rh.mut e
            obtain ⟨w, ew, rw'⟩ := q2.get ey
            obtain ⟨g, rh'⟩ := rh.putL e q1 (q2.erase j)
            exact mt_popAt pins s σ0 H _ _ v us Q I rx rs ⟨_, _, _, j, _, rfl, rfl, q1, hb.1, hb.2, by rw [← q2.length]; exact (ixN_seq ej).1, ew, p m _ _ g rh' (g.rd rw')⟩
          · exact p.elim
        · exact p.elim
      · exact p.elim
    · exact p.elim
  · exact p.elim
theorem m_insert : MtR X "list.insert" (rM (FX X cv fn xs) mInsert) := by
  intro pins s σ0 H x xs v us Q I rx rs hh
  obtain ⟨W, σ, m, h, d, ds, rh, rd, rds, p⟩ := hh
  unfold mInsert at p
  split at p
  · cases rd
    obtain ⟨y, z, rfl, ry, rz⟩ := rds2 rds
    cases ry
    split at p
    · rename_i e
      split at p
      · rename_i hb
        obtain ⟨hl, vs, q1, q2⟩ := rh.mut e
        obtain ⟨g, rh'⟩ := rh.putL e q1 (((q2.take _).snoc rz).append (q2.drop _))
        exact mt_insert pins s σ0 H _ _ v us Q I rx rs ⟨_, _, _, _, rfl, rfl, q1, by rw [sizeLine_eq, ← q2.length]; exact hb.1, hb.2.1, hb.2.2, p m _ _ g rh' .non⟩
      · exact p.elim
    · exact p.elim
  · exact p.elim
theorem m_extend : MtR X "list.extend" (rM (FX X cv fn xs) mExtend) := by
  intro pins s σ0 H x xs v us Q I rx rs hh
  obtain ⟨W, σ, m, h, d, ds, rh, rd, rds, p⟩ := hh
  unfold mExtend at p
  split at p
  · cases rd
    obtain ⟨y, rfl, ry⟩ := rds1 rds
    cases ry
    split at p
    · rename_i e1 e2
      split at p
      · rename_i hb
        obtain ⟨_, vs, q1, q2⟩ := rh.mut e1
        obtain ⟨_, ws, q3, q4⟩ := rh.mut e2
        obtain ⟨g, rh'⟩ := rh.putL e1 q1 (q2.append q4)
        exact mt_extend pins s σ0 H _ _ v us Q I rx rs ⟨_, _, _, _, rfl, rfl, q1, q3, by rw [sizeLine_eq, ← q2.length, ← q4.length]; exact hb, p m _ _ g rh' .non⟩
      · exact p.elim
    · exact p.elim
  · exact p.elim
theorem ixF_rd {T : Fx} {m : Nat → Addr} {h : Hh} {H : Hp} {y : D} {w : V} (ry : RD T.K m h.length H y w) (fy : flatD y = true) : ∀ {ds : List D} {vs : List V} {j : Nat}, RDs T.K m h.length H ds vs → ds.all flatD = true → ixF (fun z => eqF z y) ds = some j →
    (∃ z, vs[j]? = some z ∧ eqV z w = true) ∧ ∀ (k : Nat) (z' : V), k < j → vs[k]? = some z' → eqV z' w = false
  | _, _, j, .nil, _, e => by cases e
  | _, _, j, .cons (d := d) (v := v) r rs, f, e => by
    rw [List.all_cons, Bool.and_eq_true] at f
    have k1 := eqF_rd r ry f.1 fy
    unfold ixF at e
    split at e
    · rename_i hz
      cases e
      exact ⟨⟨v, rfl, by rw [k1]; exact hz⟩, fun k z' hk => absurd hk (Nat.not_lt_zero _)⟩
    · rename_i hz
      cases q : ixF (fun z => eqF z y) _ with
      | none => rw [q] at e; cases e
      | some i =>
        rw [q] at e
        cases e
        obtain ⟨⟨z, z1, z2⟩, z3⟩ := ixF_rd ry fy rs f.2 q
        refine ⟨⟨z, by simpa using z1, z2⟩, fun k z' hk ek => ?_⟩
        cases k with
        | zero => cases ek; rw [k1]; exact Bool.eq_false_iff.mpr hz
        | succ k => exact z3 k z' (Nat.lt_of_succ_lt_succ hk) (by simpa using ek)
theorem ixP_spec (f : PyData → Bool) : ∀ {ds : List PyData} {j : Nat}, ixP f ds = some j → (∃ z, ds[j]? = some z ∧ f z = true) ∧ ∀ (k : Nat) (z' : PyData), k < j → ds[k]? = some z' → f z' = false
  | [], j, e => by cases e
  | d :: ds, j, e => by
    unfold ixP at e
    split at e
    · rename_i hz
      cases e
      exact ⟨⟨d, rfl, hz⟩, fun k z' hk => absurd hk (Nat.not_lt_zero _)⟩
    · rename_i hz
      cases q : ixP f ds with
      | none => rw [q] at e; cases e
      | some i =>
        rw [q] at e
        cases e
        obtain ⟨⟨z, z1, z2⟩, z3⟩ := ixP_spec f q
        refine ⟨⟨z, by simpa using z1, z2⟩, fun k z' hk ek => ?_⟩
        cases k with
        | zero => cases ek; exact Bool.eq_false_iff.mpr hz
        | succ k => exact z3 k z' (Nat.lt_of_succ_lt_succ hk) (by simpa using ek)
theorem m_index (hu : X.A.units + 65 < cLine) : MtR X "list.index" (rM (FX X cv fn xs) mIndex) := by
  intro pins s σ0 H x xs v us Q I rx rs hh
  obtain ⟨W, σ, m, h, d, ds, rh, rd, rds, p⟩ := hh
  unfold mIndex at p
  split at p
  · rename_i n y
    have rd0 := rd
    cases rd
    obtain ⟨w, rfl, ry⟩ := rds1 rds
    split at p
    · rename_i e
      obtain ⟨_, vs, sq, q⟩ := rh.lst e
      split at p
      · rename_i hf
        split at p
        · rename_i j ej
          obtain ⟨⟨z, z1, z2⟩, z3⟩ := ixF_rd ry hf.1 q hf.2 ej
          exact mt_index pins s σ0 H _ _ v us Q I rx rs ⟨_, vs, w, j, z, rfl, rfl, sq, flat_rd ry hf.1, flat_all q hf.2, z1, z2, z3, p.here rh (.int _)⟩
        · exact p.elim
      · split at p
        · rename_i ps pp e1 e2
          split at p
          · rename_i hs
            split at p
            · rename_i j ej
              obtain ⟨⟨z, z1, z2⟩, z3⟩ := ixP_spec _ ej
              exact mt_indexD hu pins s σ0 H _ _ v us Q I rx rs ⟨_, w, _, _, j, z, rfl, rfl, toPD_dp rh _ _ _ _ e1 rd0, toPD_dp rh _ _ _ _ e2 ry, hs.1, hs.2, z1, z2, z3, p.here rh (.int _)⟩
            · exact p.elim
          · exact p.elim
        · exact p.elim
    · exact p.elim
  · exact p.elim
theorem m_remove : MtR X "list.remove" (rM (FX X cv fn xs) mRemove) := by
  intro pins s σ0 H x xs v us Q I rx rs hh
  obtain ⟨W, σ, m, h, d, ds, rh, rd, rds, p⟩ := hh
  unfold mRemove at p
  split at p
  · cases rd
    obtain ⟨y, rfl, ry⟩ := rds1 rds
    cases ry
    split at p
    · rename_i e
      split at p
      · rename_i is ei
        split at p
        · rename_i j ej
          obtain ⟨_, vs, q1, q2⟩ := rh.mut e
          have ev := intsOf_rd q2 ei
          subst ev
          obtain ⟨hl, z1, z2⟩ := List.findIdx?_eq_some_iff_getElem.mp ej
          obtain ⟨g, rh'⟩ := rh.putL e q1 (RDs.intsD (is.eraseIdx j))
          refine mt_remove pins s σ0 H _ _ v us Q I rx rs ⟨_, is, _, j, rfl, rfl, q1, ?_, fun k hk ek => ?_, p m _ _ g rh' .non⟩
          · rw [List.getElem?_eq_getElem hl]; exact congrArg some (by simpa using z1)
          · have := z2 k hk
            rw [List.getElem?_eq_getElem (by omega)] at ek
            rw [Option.some.inj ek] at this
            simp at this
        · exact p.elim
      · exact p.elim
    · exact p.elim
  · exact p.elim
theorem m_split : MtR X "str.split" (rM (FX X cv fn xs) mSplit) := by
  intro pins s σ0 H x xs v us Q I rx rs hh
  obtain ⟨W, σ, m, h, d, ds, rh, rd, rds, p⟩ := hh
  unfold mSplit at p
  split at p
  · cases rd
    obtain ⟨y, rfl, ry⟩ := rds1 rds
    cases ry
    split at p
    · rename_i hz
      exact mt_split pins s σ0 H _ _ v us Q I rx rs ⟨_, _, rfl, rfl, hz.1, by rw [sizeLine_eq]; exact hz.2, p.new rh (RDs.strs _)⟩
    · exact p.elim
  · exact p.elim
theorem m_join : MtR X "str.join" (rM (FX X cv fn xs) mJoin) := by
  intro pins s σ0 H x xs v us Q I rx rs hh
  obtain ⟨W, σ, m, h, d, ds, rh, rd, rds, p⟩ := hh
  unfold mJoin at p
  split at p
  · cases rd
    obtain ⟨y, rfl, ry⟩ := rds1 rds
    cases ry
    split at p
    · rename_i ys e
      obtain ⟨es, e1, e2⟩ := Option.bind_eq_some_iff.mp e
      obtain ⟨_, vs, sq, q⟩ := rh.lst e1
      have ev := strsOf_rd q e2
      subst ev
      split at p
      · rename_i hz
        exact mt_join pins s σ0 H _ _ v us Q I rx rs ⟨_, _, ys, rfl, rfl, .inl sq, hz, p.here rh (.str _)⟩
      · exact p.elim
    · exact p.elim
  · exact p.elim
theorem m_rfind : MtR X "str.rfind" (rM (FX X cv fn xs) mRfind) := by
  intro pins s σ0 H x xs v us Q I rx rs hh
  obtain ⟨W, σ, m, h, d, ds, rh, rd, rds, p⟩ := hh
  unfold mRfind at p
  split at p
  · cases rd
    obtain ⟨y, rfl, ry⟩ := rds1 rds
    cases ry
    exact mt_rfind pins s σ0 H _ _ v us Q I rx rs ⟨_, _, rfl, rfl, p.here rh (.int _)⟩
  · exact p.elim
theorem m_part : MtR X "str.partition" (rM (FX X cv fn xs) mPart) := by
  intro pins s σ0 H x xs v us Q I rx rs hh
  obtain ⟨W, σ, m, h, d, ds, rh, rd, rds, p⟩ := hh
  unfold mPart at p
  split at p
  · cases rd
    obtain ⟨y, rfl, ry⟩ := rds1 rds
    cases ry
    split at p
    · rename_i hz
      exact mt_partition pins s σ0 H _ _ v us Q I rx rs ⟨_, _, rfl, rfl, hz.1, by rw [sizeLine_eq]; exact hz.2, p.newT rh (.cons (.str _) (.cons (.str _) (.cons (.str _) .nil)))⟩
    · exact p.elim
  · exact p.elim
theorem c_sorted : CallR X (.builtin "sorted") (rN (FX X cv fn xs) fSorted) := by
  intro pins s σ0 H xs us Q I r hh
  obtain ⟨W, σ, m, h, ds, rh, rx, p⟩ := hh
  unfold fSorted at p
  split at p
  · obtain ⟨v, rfl, a⟩ := rds1 rx
    cases a
    split at p
    · rename_i is e
      obtain ⟨es, e1, e2⟩ := Option.bind_eq_some_iff.mp e
      obtain ⟨_, vs, sq, q⟩ := rh.lst e1
      have ev := intsOf_rd q e2
      subst ev
      split at p
      · rename_i hz
        refine cr_sorted pins s σ0 H _ us Q I r ⟨_, is, rfl, sq, hz, fun ns' q' hp hs hq => ?_⟩
        have e : ns' = is.mergeSort (fun a b => decide (a ≤ b)) := by
          refine List.Perm.eq_of_pairwise (le := (· ≤ ·)) (fun a b _ _ h1 h2 => Int.le_antisymm h1 h2) hs ?_ (hp.trans (List.mergeSort_perm _ _).symm)
          have := List.pairwise_mergeSort (le := fun (a b : Int) => decide (a ≤ b)) (fun a b c h1 h2 => decide_eq_true (Int.le_trans (of_decide_eq_true h1) (of_decide_eq_true h2))) (fun a b => by
            rcases Int.le_total a b with h | h <;> simp [h]) is
          exact this.imp fun h => of_decide_eq_true h
        rw [e]
        exact p.new rh (RDs.intsD _) q' hq
      · exact p.elim
    · exact p.elim
  · exact p.elim
end
end Mn
namespace Mn
open PySem L2
section
variable {X : Cx} {cv : Nat → Value} {fn : Nat → Str} {xs : Xs} {W : WX} {pos : Pos} {a b c : Expr} {fa fb fc : ED} {tg tg1 : Expr}
abbrev noW : WX := fun _ _ _ _ => False
theorem s_lc2 {el it it1 : Expr} {ifs ifs1 : List Expr} {scope : Scope} {own : List (Str × Nat)} {fi fi1 : ID} {g g1 : Tg} {is is1 : List Nat} {fe : ED} {tt tt1 : TD} (hx : xs = none)
    (hio : ∀ i ∈ is, i ∈ own.map (·.2)) {σ : L2.St} {H : Hp} {Q : VK} (q : PE_ (FX X cv fn xs) W (dLc2 fi g tt fi1 g1 tt1 fe (own.map (·.2)) is1) σ H Q) :
    tLc2 (PI_ (FX X cv fn xs) W fi) (PG_ (FX X cv fn xs) is g) (PT_ (FX X cv fn xs) noW tt) (PI_ (FX X cv fn xs) noW fi1) (PG_ (FX X cv fn xs) is1 g1) (PT_ (FX X cv fn xs) noW tt1) (PE_ (FX X cv fn xs) noW fe) (own.map (·.2)) is1 σ H Q := by
  obtain ⟨m, e, h, rh, re, p⟩ := q
  refine ⟨m, e, h, rh, re, p.bind fun sq h1 m1 H1 J g01 rh1 wk p1 => ?_⟩
  intro D hD
  obtain ⟨m2, g2, rh2, rd2⟩ := rh1.newL (ds := []) (vs := []) hD .nil
  have eD : m2 h1.length = D := by
    cases rd2
    rfl
  have re2 : RE (FX X cv fn xs) m2 (h1 ++ [O.lst []]).length (upd H1 D (.lst [])) (Mn.wipe e (own.map (·.2))) (L2.wipe σ (own.map (·.2))) := (g2.re (g01.re re)).wipe hx _
  have p2 := p1.base g2
  generalize own.map (·.2) = vs at *
  refine ⟨fun i n H => n = sq.items.length - i ∧ i ≤ sq.items.length ∧ ∃ m h, RH (FX X cv fn xs) m h H ∧ Ge m2 (h1 ++ [O.lst []]) (upd H1 D (.lst [])) m h H ∧
    PO (FX X cv fn xs) W (rdR (FX X cv fn xs)) σ m h H (lc2Go sq.src g tt fi1 g1 tt1 fe (Mn.wipe e vs) is1 h1.length (sq.items.drop i) h) Q, ⟨_, rfl, Nat.zero_le _, m2, _, rh2, Ge.refl, p2⟩, ?_⟩
  rintro i n H3 ⟨rfl, hi3, m3, h3, rh3, g3, p3⟩
  have g13 := g2.trans g3
  have lt1 : h1.length < h3.length := Nat.lt_of_lt_of_le (by rw [List.length_append]; exact Nat.lt_succ_self _) g3.le
  have e3 : m3 h1.length = D := (g3.eq _ (by rw [List.length_append]; exact Nat.lt_succ_self _)).trans eD
  have wk3 := wk m3 h3 H3 rh3 g13.eq g13.le g13.tk
  by_cases hlt : i < sq.items.length
  · right
    rw [List.drop_eq_getElem_cons hlt] at p3
    unfold lc2Go at p3
    split at p3
    · rename_i hok
      obtain ⟨go, _, yl⟩ := wk3 hok
      refine ⟨go i hlt, fun H' => ∃ m h, RH (FX X cv fn xs) m h H' ∧ Ge m2 (h1 ++ [O.lst []]) (upd H1 D (.lst [])) m h H' ∧
        PO (FX X cv fn xs) W (rdR (FX X cv fn xs)) σ m h H' (lc2Go sq.src g tt fi1 g1 tt1 fe (Mn.wipe e vs) is1 h1.length (sq.items.drop (i + 1)) h) Q, fun H' w => ⟨_, by omega, rfl, hlt, w⟩, fun x H4 y => ?_⟩
      obtain ⟨d, ed, g4, rh4, rd4⟩ := yl i x H4 hlt y
      rw [List.getElem?_eq_getElem hlt] at ed
      cases ed
      have p4 := p3.base g4
      split at p4
      · rename_i e1 eg
        refine ⟨m3, h3, _, _, e1, rh4, g4.re (g3.re re2), rd4, eg, fun σ' re' but => ⟨wipe_but but hio, ?_⟩⟩
        refine ⟨m3, e1, h3, rh4, re', ?_⟩
        cases qt : tt e1 h3 with
        | stuck => rw [qt] at p4; exact p4.elim
        | exc x h5 => rw [qt] at p4; exact p4.elim
        | ok k h5 =>
          rw [qt] at p4
          intro m5 H5 b g5 rh5 eb
          subst eb
          cases k with
          | false =>
            rw [if_neg Bool.false_ne_true]
            exact ⟨m5, h5, rh5, (g3.trans g4).trans g5, PO.base (r := lc2Go sq.src g tt fi1 g1 tt1 fe (Mn.wipe e vs) is1 h1.length (sq.items.drop (i + 1)) h5) p4 g5⟩
          | true =>
            rw [if_pos rfl]
            have g35 := (g3.trans g4).trans g5
            refine ⟨m5, e1, h5, rh5, g5.re re', ?_⟩
            have p5 := PO.base (r := (noX (fi1 e1 h5)).bind fun sq2 h2 => (lcGo sq2.src g1 tt1 fe (Mn.wipe e1 is1) h1.length sq2.items h2).bind fun _ h3 => lc2Go sq.src g tt fi1 g1 tt1 fe (Mn.wipe e vs) is1 h1.length (sq.items.drop (i + 1)) h3) p4 g5
            cases qi : fi1 e1 h5 with
            | stuck => rw [qi] at p5; exact p5.elim
            | exc x h6 => rw [qi] at p5; exact p5.elim
            | ok sq2 h6 =>
              rw [qi] at p5
              intro m6 H6 J1 g6 rh6 wk6
              have p6 := PO.base (r := (lcGo sq2.src g1 tt1 fe (Mn.wipe e1 is1) h1.length sq2.items h6).bind fun _ h3 => lc2Go sq.src g tt fi1 g1 tt1 fe (Mn.wipe e vs) is1 h1.length (sq.items.drop (i + 1)) h3) p5 g6
              have g36 := g35.trans g6
              have reW : RE (FX X cv fn xs) m6 h6.length H6 (Mn.wipe e1 is1) (L2.wipe σ' is1) := (g6.re (g5.re re')).wipe hx _
              refine ⟨fun j n H => n = sq2.items.length - j ∧ j ≤ sq2.items.length ∧ ∃ m h, RH (FX X cv fn xs) m h H ∧ Ge m6 h6 H6 m h H ∧
                PO (FX X cv fn xs) W (rdR (FX X cv fn xs)) σ m h H ((lcGo sq2.src g1 tt1 fe (Mn.wipe e1 is1) h1.length (sq2.items.drop j) h).bind fun _ h3 => lc2Go sq.src g tt fi1 g1 tt1 fe (Mn.wipe e vs) is1 h1.length (sq.items.drop (i + 1)) h3) Q, ⟨_, rfl, Nat.zero_le _, m6, h6, rh6, Ge.refl, p6⟩, ?_⟩
              rintro j n H7 ⟨rfl, hj7, m7, h7, rh7, g7, p7⟩
              have lt7 : h1.length < h7.length := Nat.lt_of_lt_of_le lt1 (Nat.le_trans (Nat.le_trans g5.le g6.le) g7.le)
              have e7 : m7 h1.length = D := (g7.eq _ (Nat.lt_of_lt_of_le lt1 (Nat.le_trans g5.le g6.le))).trans ((g6.eq _ (Nat.lt_of_lt_of_le lt1 g5.le)).trans ((g5.eq _ lt1).trans e3))
              have wk7 := wk6 m7 h7 H7 rh7 g7.eq g7.le g7.tk
              by_cases hlj : j < sq2.items.length
              · right
                rw [List.drop_eq_getElem_cons hlj] at p7
                unfold lcGo at p7
                split at p7
                · rename_i hok1
                  obtain ⟨go1, _, yl1⟩ := wk7 hok1
                  refine ⟨go1 j hlj, fun H' => ∃ m h, RH (FX X cv fn xs) m h H' ∧ Ge m6 h6 H6 m h H' ∧
                    PO (FX X cv fn xs) W (rdR (FX X cv fn xs)) σ m h H' ((lcGo sq2.src g1 tt1 fe (Mn.wipe e1 is1) h1.length (sq2.items.drop (j + 1)) h).bind fun _ h3 => lc2Go sq.src g tt fi1 g1 tt1 fe (Mn.wipe e vs) is1 h1.length (sq.items.drop (i + 1)) h3) Q, fun H' w => ⟨_, by omega, rfl, hlj, w⟩, fun x2 H8 y2 => ?_⟩
                  obtain ⟨d2, ed2, g8, rh8, rd8⟩ := yl1 j x2 H8 hlj y2
                  rw [List.getElem?_eq_getElem hlj] at ed2
                  cases ed2
                  have p8 := p7.base g8
                  split at p8
                  · rename_i e9 eg9
                    refine ⟨m7, h7, _, _, e9, rh8, g8.re (g7.re reW), rd8, eg9, fun σ9 re9 but9 => ⟨wipe_but but9 (fun _ z => z), ?_⟩⟩
                    refine ⟨m7, e9, h7, rh8, re9, ?_⟩
                    cases qt2 : tt1 e9 h7 with
                    | stuck => rw [qt2] at p8; exact p8.elim
                    | exc x h5 => rw [qt2] at p8; exact p8.elim
                    | ok k2 h9 =>
                      rw [qt2] at p8
                      intro m9 H9 b9 g9 rh9 eb9
                      subst eb9
                      cases k2 with
                      | false =>
                        rw [if_neg Bool.false_ne_true]
                        exact ⟨m9, h9, rh9, (g7.trans g8).trans g9, PO.base (r := (lcGo sq2.src g1 tt1 fe (Mn.wipe e1 is1) h1.length (sq2.items.drop (j + 1)) h9).bind fun _ h3 => lc2Go sq.src g tt fi1 g1 tt1 fe (Mn.wipe e vs) is1 h1.length (sq.items.drop (i + 1)) h3) p8 g9⟩
                      | true =>
                        rw [if_pos rfl]
                        refine ⟨m9, e9, h9, rh9, g9.re re9, ?_⟩
                        cases qe : fe e9 h9 with
                        | stuck => simp only [qe] at p8; exact p8.elim
                        | exc x h5 => simp only [qe] at p8; exact p8.elim
                        | ok y10 h10 =>
                          simp only [qe] at p8
                          intro m10 H10 yv g10 rh10 ry
                          split at p8
                          · rename_i acc ea
                            split at p8
                            · rename_i hz
                              obtain ⟨hn, ws, q1, q2⟩ := rh10.mut ea
                              have e10 : m10 h1.length = D := (g10.eq _ (Nat.lt_of_lt_of_le lt7 g9.le)).trans ((g9.eq _ lt7).trans e7)
                              obtain ⟨g11, rh11⟩ := rh10.putL ea q1 (q2.snoc ry)
                              have g16 := (((g7.trans g8).trans g9).trans g10).trans g11
                              refine ⟨ws, by rw [← e10]; exact q1, by rw [sizeLine_eq, ← q2.length]; exact hz, m10, h10.set h1.length (.lst (acc ++ [y10])), ?_, ?_, ?_⟩
                              · rw [← e10]; exact rh11
                              · rw [e10] at g16; exact g16
                              · rw [← e10]
                                exact PO.base (r := (lcGo sq2.src g1 tt1 fe (Mn.wipe e1 is1) h1.length (sq2.items.drop (j + 1)) (h10.set h1.length (.lst (acc ++ [y10])))).bind fun _ h3 => lc2Go sq.src g tt fi1 g1 tt1 fe (Mn.wipe e vs) is1 h1.length (sq.items.drop (i + 1)) h3) p8 ((g9.trans g10).trans g11)
                            · exact p8.elim
                          · exact p8.elim
                  · exact p8.elim
                · exact p7.elim
              · have ej : j = sq2.items.length := by omega
                subst ej
                left
                rw [List.drop_length] at p7
                unfold lcGo at p7
                split at p7
                · rename_i hok1
                  obtain ⟨_, st1, _⟩ := wk7 hok1
                  exact ⟨st1, m7, h7, rh7, g36.trans g7, p7⟩
                · exact p7.elim
      · exact p4.elim
    · exact p3.elim
  · have ei : i = sq.items.length := by omega
    subst ei
    left
    rw [List.drop_length] at p3
    unfold lc2Go at p3
    split at p3
    · rename_i hok
      obtain ⟨_, st, _⟩ := wk3 hok
      refine ⟨st, ?_⟩
      have r := RD.ref (K := X.K) (m := m3) (H := H3) lt1
      rw [e3] at r
      exact p3.here rh3 r
    · exact p3.elim
theorem s_par {i j : Nat} {x y : Str} {px py pt : Pos} {kt k2 : Nat} {pt2 : Pos} (hx0 : xs = none) (hc : X.calm = true) (hN : X.N.Nodup) (hi : X.N[i]? = some x) (hj : X.N[j]? = some y) (hij : i ≠ j)
    (hx : X.env.scope.names.lookup x = some .local) (hy : X.env.scope.names.lookup y = some .local) (ha : PE X a (PE_ (FX X cv fn xs) W fa)) (hb : PE X b (PE_ (FX X cv fn xs) W fb))
    (hab : starEach [a, b] X.env = (false, eval a X.env) :: starEach [b] X.env) (hb1 : starEach [b] X.env = (false, eval b X.env) :: starEach [] X.env)
    (hw : swappedStores [.Tuple [.Name x px, .Name y py] kt pt] (.Tuple [a, b] k2 pt2) X.env = pure (some [x, y])) :
    PS X (.Assign [.Tuple [.Name x px, .Name y py] kt pt] (.Tuple [a, b] k2 pt2) pos) (PS_ (FX X cv fn xs) W (sPar i j fa fb)) :=
  psImp (ps_par hc hN hi hj hij hx hy (pa_cons ha (pa_cons hb pa_nil hb1) hab) hw) fun D σ H q => by
    obtain ⟨m, e, h, rh, re, p⟩ := q
    refine ⟨m, e, h, rh, re, PO.toS re p fun v h1 m1 H1 v1 g1 rh1 r1 p1 => ⟨m1, e, h1, rh1, g1.re re, PO.toS (g1.re re) p1 fun w h2 m2 H2 w1 g2 rh2 r2 p2 => ?_⟩⟩
    have nx : ∀ k, Nx (FX X cv fn xs) k := fun k j a h => by rw [show xs = some (j, a) from h] at hx0; cases hx0
    exact ⟨v1, w1, rfl, p2 m2 H2 _ Ge.refl rh2 (((g2.re (g1.re re)).set i (nx i) (g2.rd r1)).set j (nx j) r2)⟩
theorem o_get : PGet X (r2 (FX X cv fn xs) getL) := by
  intro pins s σ0 H o i ov iv Q I ro ri hh
  obtain ⟨W, σ, m, h, d1, d2, rh, ra, rb, p⟩ := hh
  unfold getL at p
  split at p
  · cases ra
    cases rb
    split at p
    · rename_i e
      split at p
      · rename_i hb
        split at p
        · rename_i d ed
          obtain ⟨_, vs, sq, r⟩ := rh.lst e
          obtain ⟨w, ew, rw'⟩ := r.get ed
          cases ro
          obtain ⟨t, rfl⟩ := ri
          obtain ⟨its, rv, pl, hz⟩ := I.list sq
          obtain ⟨u, eu, ru⟩ := rv.get ew
          exact wpAny_getItem_list pl.isList hb.1 hb.2 (by simpa using eu) ⟨w, H, I, ru, p.here rh rw'⟩
        · exact p.elim
      · exact p.elim
    · exact p.elim
  · exact p.elim
theorem s_augI {op : Operator} {io : D → D → Hh → R D} {tpos : Pos} (hp : PIp X op (r2 (FX X cv fn xs) io)) (ha : PE X a (PE_ (FX X cv fn xs) W fa)) (hb : PE X b (PE_ (FX X cv fn xs) W fb)) (hc : PE X c (PE_ (FX X cv fn xs) W fc))
    (hs : ∀ ov iv new, augStore b ov iv new = (do holding [new, ov, iv] (setItem ov iv new); release [new, ov, iv] []; pure .next)) : PS X (.AugAssign (.Subscript a b tpos) op c pos) (PS_ (FX X cv fn xs) W (sAugI io fa fb fc)) :=
  psImp (ps_augS ha hb o_get hc hp o_set hs) fun D σ H q => by
    obtain ⟨m, e, h, rh, re, p⟩ := q
    refine ⟨m, e, h, rh, re, PO.toS re p fun o h1 m1 H1 o1 g1 rh1 ro p1 => ⟨m1, e, h1, rh1, g1.re re, PO.toS (g1.re re) p1 fun k h2 m2 H2 k1 g2 rh2 rk p2 => ?_⟩⟩
    have re2 := g2.re (g1.re re)
    refine ⟨W, σ, m2, h2, o, k, rh2, g2.rd ro, rk, PO.toS re2 p2 fun v h3 m3 H3 v1 g3 rh3 rv p3 => ⟨m3, e, h3, rh3, g3.re re2, PO.toS (g3.re re2) p3 fun w h4 m4 H4 w1 g4 rh4 rw' p4 => ?_⟩⟩
    have re4 := g4.re (g3.re re2)
    refine ⟨W, σ, m4, h4, v, w, rh4, g4.rd rv, rw', PO.toS re4 p4 fun z h5 m5 H5 z1 g5 rh5 rz p5 => ?_⟩
    have g25 := (g3.trans g4).trans g5
    refine ⟨W, σ, m5, h5, o, k, z, rh5, g25.rd (g2.rd ro), g25.rd rk, rz, PO.toS (g5.re re4) p5 fun _ h6 m6 H6 _ g6 rh6 _ p6 => ?_⟩
    exact p6 m6 H6 σ Ge.refl rh6 (g6.re (g5.re re4))
end
end Mn
namespace Mn
open PySem L2
theorem fnames_nd : fnames.Nodup := by decide +kernel
theorem nd_inj {α : Type} {l : List α} (nd : l.Nodup) {i j : Nat} (hi : i < l.length) (hj : j < l.length) (e : l[i] = l[j]) : i = j := by
  have p := List.pairwise_iff_getElem.mp nd
  rcases Nat.lt_trichotomy i j with h | h | h
  · exact absurd e (p i j hi hj h)
  · exact h
  · exact absurd e.symm (p j i hj hi h)
theorem fnm_inj {i j : Nat} (hi : i < fnames.length) (hj : j < fnames.length) (e : fnm i = fnm j) : i = j := by
  unfold fnm at e
  rw [List.getD_eq_getElem?_getD, List.getD_eq_getElem?_getD, List.getElem?_eq_getElem hi, List.getElem?_eq_getElem hj] at e
  exact nd_inj fnames_nd hi hj e
theorem fn_ne : fnames.all (fun s => !(s == ("" : Str))) = true := by decide +kernel
theorem fnm_inj1 {i g : Nat} (hi : i < fnames.length) (e : fnm i = fnm g) : i = g := by
  by_cases hg : g < fnames.length
  · exact fnm_inj hi hg e
  · exfalso
    unfold fnm at e
    rw [List.getD_eq_getElem?_getD, List.getD_eq_getElem?_getD, List.getElem?_eq_getElem hi, List.getElem?_eq_none (by omega)] at e
    have h := List.all_eq_true.mp fn_ne _ (List.getElem_mem hi)
    rw [show fnames[i] = ("" : Str) from e] at h
    simp at h
abbrev PF (K : PySem.W.Frag) (m : Nat → Addr) (N : Nat) (H : Hp) : Nat × D → Str × V → Prop := fun p q => q.1 = fnm p.1 ∧ RD K m N H p.2 q.2
section
variable {K : PySem.W.Frag} {m : Nat → Addr} {N : Nat} {H : Hp}
theorem look_mem {α : Type} {i : Nat} {d : α} : ∀ {fs : List (Nat × α)}, fs.lookup i = some d → (i, d) ∈ fs
  | [], h => by cases h
  | (g, x) :: r, h => by
    rw [List.lookup_cons] at h
    cases hb : i == g with
    | true =>
      rw [hb] at h
      cases h
      have : i = g := by simpa using hb
      subst this
      exact .head _
    | false =>
      rw [hb] at h
      exact .tail _ (look_mem h)
theorem look_rd {i : Nat} {d : D} : ∀ {fs : List (Nat × D)} {vs : List (Str × V)}, Paired (PF K m N H) fs vs → (∀ p ∈ fs, p.1 < fnames.length) → fs.lookup i = some d → ∃ v, vs.lookup (fnm i) = some v ∧ RD K m N H d v
  | [], _, .nil, _, h => by cases h
  | (g, x) :: r, (s, y) :: vs, .cons a b, hk, h => by
    obtain ⟨a1, a2⟩ := a
    dsimp only at a1 a2
    subst a1
    have hm := hk _ (List.mem_cons_self ..)
    have hi : i < fnames.length := hk _ (look_mem h)
    rw [List.lookup_cons] at h
    rw [List.lookup_cons]
    cases hb : i == g with
    | true =>
      rw [hb] at h
      cases h
      have e : i = g := by simpa using hb
      subst e
      rw [beq_self_eq_true]
      exact ⟨y, rfl, a2⟩
    | false =>
      rw [hb] at h
      have ne : i ≠ g := by simpa using hb
      have e2 : (fnm i == fnm g) = false := by
        refine beq_eq_false_iff_ne.mpr fun z => ne (fnm_inj hi hm z)
      rw [e2]
      exact look_rd b (fun p hp => hk p (.tail _ hp)) h
theorem look_rdX {i : Nat} {d : D} (hi : i < fnames.length) : ∀ {fs : List (Nat × D)} {vs : List (Str × V)}, Paired (PF K m N H) fs vs → fs.lookup i = some d → ∃ v, vs.lookup (fnm i) = some v ∧ RD K m N H d v
  | [], _, .nil, h => by cases h
  | (g, x) :: r, (s, y) :: vs, .cons a b, h => by
    obtain ⟨a1, a2⟩ := a
    dsimp only at a1 a2
    subst a1
    rw [List.lookup_cons] at h
    rw [List.lookup_cons]
    cases hb : i == g with
    | true =>
      rw [hb] at h
      cases h
      have e : i = g := by simpa using hb
      subst e
      rw [beq_self_eq_true]
      exact ⟨y, rfl, a2⟩
    | false =>
      rw [hb] at h
      have ne : i ≠ g := by simpa using hb
      rw [beq_eq_false_iff_ne.mpr fun z => ne (fnm_inj1 hi z)]
      exact look_rdX hi b h
theorem put_rd {i : Nat} {d : D} {v : V} (hi : i < fnames.length) (r : RD K m N H d v) : ∀ {fs : List (Nat × D)} {vs : List (Str × V)}, Paired (PF K m N H) fs vs → (∀ p ∈ fs, p.1 < fnames.length) → Paired (PF K m N H) (putA i d fs) (putF (fnm i) v vs)
  | [], _, .nil, _ => .cons ⟨rfl, r⟩ .nil
  | (g, x) :: fs, (s, y) :: vs, .cons a b, hk => by
    obtain ⟨a1, a2⟩ := a
    dsimp only at a1 a2
    subst a1
    have hm := hk _ (List.mem_cons_self ..)
    unfold putA putF
    by_cases e : g = i
    · subst e
      rw [if_pos rfl, if_pos rfl]
      exact .cons ⟨rfl, r⟩ b
    · rw [if_neg e, if_neg fun z => e (fnm_inj hm hi z)]
      exact .cons ⟨rfl, a2⟩ (put_rd hi r b fun p hp => hk p (.tail _ hp))
theorem put_mem {i : Nat} {d : D} {p : Nat × D} : ∀ {fs : List (Nat × D)}, p ∈ putA i d fs → p.1 = i ∨ p ∈ fs
  | [], h => by cases List.mem_singleton.mp h; exact .inl rfl
  | (g, x) :: fs, h => by
    unfold putA at h
    by_cases e : g = i
    · rw [if_pos e] at h
      rcases List.mem_cons.mp h with h | h
      · subst h; exact .inl e
      · exact .inr (.tail _ h)
    · rw [if_neg e] at h
      rcases List.mem_cons.mp h with h | h
      · subst h; exact .inr (.head _)
      · rcases put_mem h with h | h
        · exact .inl h
        · exact .inr (.tail _ h)
theorem look_no {mm : Str} : ∀ {fs : List (Nat × D)} {vs : List (Str × V)}, Paired (PF K m N H) fs vs → (∀ p ∈ fs, fnm p.1 ≠ mm) → vs.lookup mm = none
  | [], _, .nil, _ => rfl
  | (g, x) :: fs, (s, y) :: vs, .cons a b, hk => by
    obtain ⟨a1, a2⟩ := a
    dsimp only at a1 a2
    subst a1
    rw [List.lookup_cons, beq_eq_false_iff_ne.mpr (Ne.symm (hk _ (List.mem_cons_self ..)))]
    exact look_no b fun p hp => hk p (.tail _ hp)
theorem pf_len : ∀ {fs : List (Nat × D)} {vs : List (Str × V)}, Paired (PF K m N H) fs vs → fs.length = vs.length
  | _, _, .nil => rfl
  | _, _, .cons _ r => congrArg Nat.succ (pf_len r)
end
section
variable {T : Fx} {W : WX}
theorem insAt_of {h : Hh} {x : D} {c : Nat} {fs : List (Nat × D)} (e : insAt h x = some (c, fs)) : ∃ n, x = .ref n ∧ h[n]? = some (.ins c fs) := by
  unfold insAt at e
  split at e
  · rename_i n
    split at e
    · rename_i c' fs' h1
      cases e
      exact ⟨n, rfl, h1⟩
    · cases e
  · cases e
theorem insAt_eq {h : Hh} {n c : Nat} {fs : List (Nat × D)} (e : h[n]? = some (.ins c fs)) : insAt h (.ref n) = some (c, fs) := by
  simp only [insAt, e]
theorem RH.putI {m : Nat → Addr} {h : Hh} {H : Hp} {n c : Nat} {C dx : Addr} {fs fs' : List (Nat × D)} {ws vs' : List (Str × V)} (r : RH T m h H) (hn : h[n]? = some (.ins c fs)) (hC : T.cv c = .ref C) (hw : H (m n) = some (.ins C dx ws)) (q : Paired (PF T.K m h.length H) fs' vs')
    (k : Cls T.K C) (z : ∀ p ∈ fs', p.1 < fnames.length ∧ NoAttr T.K C (fnm p.1)) : Ge m h H m (h.set n (.ins c fs')) (upd H (m n) (.ins C dx vs')) ∧ RH T m (h.set n (.ins c fs')) (upd H (m n) (.ins C dx vs')) :=
  r.put hn rfl rfl hw (fun _ z => by cases z) (fun _ _ z => by cases z) (fun _ z => by cases z) (fun _ _ z => by cases z)
    ⟨C, dx, vs', hC, upd_same, Paired.mapP q fun _ _ z => ⟨z.1, z.2.mono (TK.set hw (fun _ z => by cases z) (fun _ _ z => by cases z) (fun _ z => by cases z) (fun _ _ z => by cases z)) (fun _ _ => rfl) (Nat.le_refl _)⟩, k, z⟩
end
section
variable {X : Cx} {cv : Nat → Value} {fn : Nat → Str} {xs : Xs} {W : WX} {pos : Pos} {a b c o : Expr} {fa fb fo : ED}
theorem fld_rd {σ : L2.St} {m : Nat → Addr} {h : Hh} {H : Hp} {f : Nat} {d : D} {x : V} {Q : VK} (rh : RH (FX X cv fn xs) m h H) (rx : RD X.K m h.length H d x) (p : PO (FX X cv fn xs) W (rdR (FX X cv fn xs)) σ m h H (fldD f d h) Q) :
    ∃ a C dx fs v, x = .ref a ∧ H a = some (.ins C dx fs) ∧ Cls X.K C ∧ NoAttr X.K C (fnm f) ∧ fs.lookup (fnm f) = some v ∧ Q v H := by
  unfold fldD at p
  split at p
  · rename_i c fs e
    obtain ⟨n, rfl, hn⟩ := insAt_of e
    cases rx
    split at p
    · rename_i dv ed
      obtain ⟨C, dx, vs, hC, hw, pf, k, z⟩ := rh.obj n _ hn
      obtain ⟨v, e1, r1⟩ := look_rd pf (fun p hp => (z p hp).1) ed
      exact ⟨_, C, dx, vs, v, rfl, hw, k, (z _ (look_mem ed)).2, e1, p.here rh r1⟩
    · exact p.elim
  · exact p.elim
theorem s_fld {f : Nat} (ho : PE X o (PE_ (FX X cv fn xs) W fo)) (hb : attributeBase o (fnm f) X.env (eval o X.env) = eval o X.env) : PE X (.Attribute o (fnm f) pos) (PE_ (FX X cv fn xs) W (dFld f fo)) :=
  peImp (pe_fld ho hb) fun σ H Q q => by
    obtain ⟨m, e, h, rh, re, p⟩ := q
    exact ⟨m, e, h, rh, re, p.bind fun x h1 m1 H1 xv g1 rh1 rx p1 => fld_rd rh1 rx p1⟩
def NaOk (K : PySem.W.Frag) (cv : Nat → Value) (na : Nat → List Nat) : Prop := ∀ c f, (na c).elem f = true → ∀ C, cv c = .ref C → NoAttr K C (fnm f)
theorem putD_of {na : Nat → List Nat} {f : Nat} {d v : D} {h : Hh} {m : Nat → Addr} {H : Hp} {x y : V} (hna : NaOk X.K cv na) (hf : f < fnames.length) (rh : RH (FX X cv fn xs) m h H) (rx : RD X.K m h.length H d x) (ry : RD X.K m h.length H v y)
    {r : R Unit} (e : putD na f d v h = r) (ns : r ≠ .stuck) : ∃ n c fs C dx ws, d = .ref n ∧ x = .ref (m n) ∧ h[n]? = some (.ins c fs) ∧ cv c = .ref C ∧ H (m n) = some (.ins C dx ws) ∧ Cls X.K C ∧ NoAttr X.K C (fnm f) ∧ ws.length < 1000 ∧
      r = .ok () (h.set n (.ins c (putA f v fs))) ∧ Ge m h H m (h.set n (.ins c (putA f v fs))) (upd H (m n) (.ins C dx (putF (fnm f) y ws))) ∧ RH (FX X cv fn xs) m (h.set n (.ins c (putA f v fs))) (upd H (m n) (.ins C dx (putF (fnm f) y ws))) := by
  unfold putD at e
  split at e
  · rename_i n
    split at e
    · rename_i c fs hn
      split at e
      · rename_i hc
        cases rx
        obtain ⟨C, dx, vs, hC, hw, pf, k, z⟩ := rh.obj n _ hn
        have nf := hna c f hc.1 C hC
        have hl := pf_len pf
        obtain ⟨g, rh'⟩ := rh.putI hn hC hw (put_rd hf ry pf fun p hp => (z p hp).1) k fun p hp => by
          rcases put_mem hp with e1 | hp
          · rw [e1]; exact ⟨hf, nf⟩
          · exact z p hp
        exact ⟨n, c, fs, C, dx, vs, rfl, rfl, hn, hC, hw, k, nf, by omega, e.symm, g, rh'⟩
      · exact absurd e.symm ns
    · exact absurd e.symm ns
  · exact absurd e.symm ns
theorem toS_ok {α : Type} {σ : L2.St} {D : Ends} {e : Ev} {m : Nat → Addr} {h : Hh} {H : Hp} {r : R α} {f : α → Hh → RS} (p : PSo (FX X cv fn xs) W D m h H (r.toS e f)) : r ≠ .stuck := fun z => by rw [z] at p; exact p
theorem s_fl {na : Nat → List Nat} {f : Nat} {p' : Pos} (hna : NaOk X.K cv na) (hf : f < fnames.length) (ho : PE X o (PE_ (FX X cv fn xs) W fo)) (ha : PE X a (PE_ (FX X cv fn xs) W fa)) (hs : swapsWith a (some (.Attribute o (fnm f) p')) pos.line X.env = pure false) :
    PS X (.Assign [.Attribute o (fnm f) p'] a pos) (PS_ (FX X cv fn xs) W (sFl na f fo fa)) :=
  psImp (ps_fld ho ha hs) fun D σ H q => by
    obtain ⟨m, e, h, rh, re, p⟩ := q
    refine ⟨m, e, h, rh, re, PO.toS re p fun v h1 m1 H1 y g1 rh1 ry p1 => ⟨m1, e, h1, rh1, g1.re re, PO.toS (g1.re re) p1 fun x h2 m2 H2 xv g2 rh2 rx p2 => ?_⟩⟩
    obtain ⟨n, c, fs, C, dx, ws, rfl, rfl, hn, hC, hw, k, nf, hl, er, g3, rh3⟩ := putD_of (y := y) hna hf rh2 rx (g2.rd ry) rfl (toS_ok (σ := σ) p2)
    rw [er] at p2
    exact ⟨_, C, dx, ws, rfl, hw, k, nf, hl, p2 m2 _ σ g3 rh3 (g3.re (g2.re (g1.re re)))⟩
theorem s_augF {na : Nat → List Nat} {f : Nat} {op : Operator} {io : D → D → Hh → R D} {p' : Pos} (hna : NaOk X.K cv na) (hf : f < fnames.length) (ho : PE X o (PE_ (FX X cv fn xs) W fo)) (ha : PE X a (PE_ (FX X cv fn xs) W fa)) (hop : PIp X op (r2 (FX X cv fn xs) io)) :
    PS X (.AugAssign (.Attribute o (fnm f) p') op a pos) (PS_ (FX X cv fn xs) W (sAugF na f io fo fa)) :=
  psImp (ps_fldaug ho ha (rd := r2 (FX X cv fn xs) io) fun pins s σ H x y u v Q I rx ry q => hop pins s σ H x y u v Q I rx ry q) fun D σ H q => by
    obtain ⟨m, e, h, rh, re, p⟩ := q
    refine ⟨m, e, h, rh, re, PO.toS re p fun x h1 m1 H1 xv g1 rh1 rx p1 => ?_⟩
    unfold fldD at p1
    split at p1
    · rename_i c fs e0
      obtain ⟨n, rfl, hn⟩ := insAt_of e0
      cases rx
      split at p1
      · rename_i dv ed
        obtain ⟨C, dx, vs, hC, hw, pf, k, z⟩ := rh1.obj n _ hn
        obtain ⟨v, e1, r1⟩ := look_rd pf (fun p hp => (z p hp).1) ed
        refine ⟨_, C, dx, vs, v, rfl, hw, k, (z _ (look_mem ed)).2, e1, m1, e, h1, rh1, g1.re re, ?_⟩
        refine PO.toS (r := fa e h1) (f := fun w h3 => (io dv w h3).toS e fun z h4 => if (insAt h4 (.ref n)).map (·.1) = (insAt h1 (.ref n)).map (·.1) then (putD na f (.ref n) z h4).toS e fun _ h5 => .go .nx e h5 else .stuck) (g1.re re) p1 fun w h3 m3 H3 y g3 rh3 ry p3 => ?_
        refine ⟨W, σ, m3, h3, dv, w, rh3, g3.rd r1, ry, PO.toS (r := io dv w h3) (f := fun z h4 => if (insAt h4 (.ref n)).map (·.1) = (insAt h1 (.ref n)).map (·.1) then (putD na f (.ref n) z h4).toS e fun _ h5 => .go .nx e h5 else .stuck) (g3.re (g1.re re)) p3 fun z4 h4 m4 H4 zv g4 rh4 rz p4 => ?_⟩
        split at p4
        · rename_i hcls
          obtain ⟨n', c', fs', C', dx', ws', en, ex, hn', hC', hw', k', nf', hl', er, g5, rh5⟩ := putD_of (y := zv) hna hf rh4 (g4.rd (g3.rd (RD.ref (K := X.K) (m := m1) (H := H1) (List.getElem?_eq_some_iff.mp hn).1))) rz rfl (toS_ok (σ := σ) p4)
          cases en
          rw [er] at p4
          have ec : c' = c := by
            have e4 : insAt h4 (.ref n) = some (c', fs') := insAt_eq hn'
            rw [e0, e4] at hcls
            exact Option.some.inj hcls
          subst ec
          have eC : C' = C := by have z := hC.symm.trans hC'; cases z; rfl
          subst eC
          have em : m4 n = m1 n := V.ref.inj ex.symm
          rw [em] at hw' g5 rh5
          exact ⟨dx', ws', hw', hl', p4 m4 _ σ g5 rh5 (g5.re (g4.re (g3.re (g1.re re))))⟩
        · exact p4.elim
      · exact p1.elim
    · exact p1.elim
end
end Mn
namespace Mn
open PySem L2
section
variable {T : Fx} {W : WX}
theorem PO.bindE {α β γ δ : Type} {RA : (Nat → Addr) → Nat → Hp → α → β → Prop} {RB : (Nat → Addr) → Nat → Hp → γ → δ → Prop} {σ : L2.St} {m : Nat → Addr} {h : Hh} {H : Hp} {r : R α} {f : α → Hh → R γ} {Q : δ → Hp → Prop} {Q1 : β → Hp → Prop}
    (p : PO T W RB σ m h H (r.bind f) Q) (k : ∀ a h' m' H' b, r = .ok a h' → Ge m h H m' h' H' → RH T m' h' H' → RA m' h'.length H' a b → PO T W RB σ m' h' H' (f a h') Q → Q1 b H') : PO T W RA σ m h H r Q1 := by
  cases r with
  | ok a h' => exact fun m' H' b g rh ra => k a h' m' H' b rfl g rh ra (PO.base (r := f a h') p g)
  | exc x h' => exact p
  | stuck => exact p
theorem PO.call {α β : Type} {RA : (Nat → Addr) → Nat → Hp → α → β → Prop} {σ : L2.St} {m : Nat → Addr} {h : Hh} {H : Hp} {r : R α} {Q : β → Hp → Prop} (p : PO T W RA σ m h H r Q) : PO T (fun c d _ H => WE W σ c d H) RA [] m h H r Q := by
  cases r with
  | ok a h' => exact p
  | exc x h' => exact p
  | stuck => exact p
end
section
variable {X : Cx} {cv : Nat → Value} {fn : Nat → Str} {W : WX} {pos : Pos}
structure MtOk (X : Cx) (cv : Nat → Value) (fn : Nat → Str) (mm : Str) (nw c : Nat) (f : FD) : Prop where
  ex : ∃ (C g : Addr) (k : Nat) (fd : FuncData) (ps : List Str) (gT : FD) (dds : List D) (dvs : List V) (ws : List Value), cv c = .ref C ∧ Meth X.K C mm g ∧ FnOk X.prog X.w X.K X.mg X.base (L2.CX X.prog X.w) k g fd ps (spT (FX X cv fn none) ps.length gT) ∧ Room k X.A ∧
    Binds X.K fd ps ws ∧ Vals dvs ws ∧ (∀ m N H, RDs X.K m N H dds dvs) ∧ (nw + 1) + dvs.length = ps.length ∧ f = fun ds => gT (ds ++ dds)
theorem meth_ne {m : Nat → Addr} {N : Nat} {H : Hp} {C g : Addr} {mm : Str} {fs : List (Nat × D)} {vs : List (Str × V)} (pf : Paired (PF X.K m N H) fs vs) (z : ∀ p ∈ fs, p.1 < fnames.length ∧ NoAttr X.K C (fnm p.1)) (M : Meth X.K C mm g) : vs.lookup mm = none :=
  look_no pf fun p hp e => by
    have h := (z p hp).2
    unfold NoAttr at h
    rw [e, M.at_] at h
    cases h
theorem s_meth {oe : Expr} {mm : Str} {es : List Expr} {apos : Pos} {ms : List (Nat × FD)} {fo : ED} {as : AD} (ho : PE X oe (PE_ (FX X cv fn none) W fo)) (ha : PA X es (PA_ (FX X cv fn none) W as)) (tk : Takes X W)
    (hlen : ∀ e h ds h', as e h = .ok ds h' → ds.length = es.length) (hnil : es = [] → as = aN) (hms : ∀ c f, ms.lookup c = some f → MtOk X cv fn mm es.length c f)
    (hst : ∀ e r, es = e :: r → starEach (e :: r) X.env = (false, eval e X.env) :: starEach r X.env ∧ (backTo pos (starEach r X.env)).any (·.1) = false)
    (ht : eval (.Call (.Attribute oe mm apos) es [] pos) X.env = (do
      let ov ← eval oe X.env
      standAt apos.atName
      let (f, first) ← holding [ov] (getMethod ov mm (plainOf oe X.env))
      callWith pos f first (backTo pos (starEach es X.env)) (backToKw pos (keywordEach [] X.env)))) :
    PE X (.Call (.Attribute oe mm apos) es [] pos) (PE_ (FX X cv fn none) W (dMe ms fo as)) := by
  refine ⟨fun pins s σ H Q I hq => ?_⟩
  obtain ⟨m, e, h, rh, re, p⟩ := hq
  have pre : PE_ (FX X cv fn none) W fo σ H fun x H1 => ∃ (C g a dx : Addr) (vf : List (Str × V)) (k : Nat) (fd : FuncData) (ps : List Str) (gT : FD) (dvs : List V) (ws : List Value), x = .ref a ∧ H1 a = some (.ins C dx vf) ∧ Cls X.K C ∧ Meth X.K C mm g ∧ vf.lookup mm = none ∧
      FnOk X.prog X.w X.K X.mg X.base (L2.CX X.prog X.w) k g fd ps (spT (FX X cv fn none) ps.length gT) ∧ Room k X.A ∧ Binds X.K fd ps ws ∧ Vals dvs ws ∧
      PA_ (FX X cv fn none) W as σ H1 fun vs H2 => spT (FX X cv fn none) ps.length gT ((.ref a :: vs) ++ dvs) H2 Q (WE W σ) := by
    refine ⟨m, e, h, rh, re, p.bind fun x h1 m1 H1 xv g1 rh1 rx p1 => ?_⟩
    split at p1
    · rename_i c fs e0
      obtain ⟨n, rfl, hn⟩ := insAt_of e0
      split at p1
      · rename_i f ef
        obtain ⟨C, g, k, fd, ps, gT, dds, dvs, ws, hC, M, F, hr, hb, hd, hdd, hl, rfl⟩ := (hms c f ef).ex
        obtain ⟨C', dx, vs, hC', hw, pf, cl, z⟩ := rh1.obj n _ hn
        have eC : C' = C := by have z := hC.symm.trans hC'; cases z; rfl
        subst eC
        have rx0 := rx
        cases rx
        refine ⟨C', g, _, dx, vs, k, fd, ps, gT, dvs, ws, rfl, hw, cl, M, meth_ne pf z M, F, hr, hb, hd, m1, e, h1, rh1, g1.re re, p1.bindE fun ds h2 m2 H2 us eq g2 rh2 r2 p2 => ?_⟩
        refine ⟨?_, m2, h2, (.ref n :: ds) ++ dds, rh2, (RDs.cons (g2.rd rx0) r2).append (hdd _ _ _), p2.call⟩
        rw [List.length_append, List.length_cons, ← r2.length, hlen _ _ _ _ eq]
        exact hl
      · exact p1.elim
    · exact p1.elim
  refine PySem.W.methodCall_KW (pl := plainOf oe X.env) (thn (ho.run pins s σ H _ I pre) fun u s1 hh => ?_) ht
  obtain ⟨x, H1, I1, rx, C, g, a, dx, vf, k, fd, ps, gT, dvs, ws, rfl, hw, cl, M, l0, F, hr, hb, hd, q⟩ := hh
  obtain rfl : u = Value.ref a := rx
  refine getmeth_ok I1 hw cl M l0 ?_
  cases es with
  | nil =>
    cases hnil rfl
    obtain ⟨m1, e1, h1, rh1, re1, p1⟩ := q
    exact PySem.W.callWith_K0 (first := [.ref a]) I1.kIn M.kp (run_own (us := [.ref a]) (vs := [.ref a]) F hr hb hd (passAt tk σ) I1 (.cons rfl .nil) (p1.here rh1 .nil))
  | cons e1 er =>
    obtain ⟨h1, h2⟩ := hst e1 er rfl
    refine PySem.W.callWith_K (first := [.ref a]) (h₀ := X.base) I.ok.mod.kin M.kp (thn (ha.run pos pins s1 σ H1 _ I1 q) fun us s2 ⟨vs, H2, I2, r2, q2⟩ => ⟨I2.kIn, ?_⟩) h1 h2
    exact run_own (us := .ref a :: us) (vs := .ref a :: vs) F hr hb hd (passAt tk σ) I2 (.cons rfl r2) q2
theorem RH.made {T : Fx} {m : Nat → Addr} {h : Hh} {H : Hp} {x dx C : Addr} {c : Nat} (r : RH T m h H) (hx : H x = none) (hd : H dx = none) (ne : dx ≠ x) (hC : T.cv c = .ref C) (k : Cls T.K C) :
    ∃ m', Ge m h H m' (h ++ [.ins c []]) (upd (upd H dx (.own x)) x (.ins C dx [])) ∧ RH T m' (h ++ [.ins c []]) (upd (upd H dx (.own x)) x (.ins C dx [])) ∧ RD T.K m' (h ++ [O.ins c []]).length (upd (upd H dx (.own x)) x (.ins C dx [])) (.ref h.length) (.ref x) := by
  obtain ⟨g1, r1⟩ := r.lay (u := .own x) hd
  obtain ⟨m', g2, r2, rd⟩ := r1.new (p := x) (u := .ins C dx []) (o := .ins c []) (by rw [upd_ne (Ne.symm ne)]; exact hx) fun m' _ _ => ⟨C, dx, [], hC, upd_same, .nil, k, fun p hp => by cases hp⟩
  exact ⟨m', g1.trans g2, r2, rd⟩
theorem run_mk {k : Nat} {C f : Addr} {fd : FuncData} {ps : List Str} {sp : Sp} {E : XK} {pins : List (Addr × Obj)} {σ : L2.St} {H : Hp} {s : Shared} {Q : VK} {us : List Value} {kw : List (Str × Value)} {bs : Addr → List V} {bv : Addr → List Value}
    (M : Mk X.K C f) (F : FnOk X.prog X.w X.K X.mg X.base (L2.CX X.prog X.w) k f fd ps sp) (hr : Room (k + 1) X.A) (hx : PassesAt (L2.CX X.prog X.w) X σ E) (I : Inv X pins σ H s) 
    (hb : ∀ (x : Addr) (s' : Shared), X.K.In s'.heap → BindsTo s' fd ⟨.ref x :: us, kw⟩ (ps.zip (bv x))) (r : ∀ x, Vals (bs x) (bv x))
    (h : ∀ x dx, H x = none → H dx = none → dx ≠ x → sp (bs x) (upd (upd H dx (.own x)) x (.ins C dx [])) (fun v H2 => v = .non ∧ Q (.ref x) H2) E) :
    wpAny (model X.prog X.w) X.A (call (.ref C) us kw) (EP X pins σ Q) X.xe s := by
  have hlt : s.heap.objs.size ≠ s.heap.objs.size + 1 := Nat.ne_of_lt (Nat.lt_succ_self _)
  have start := h (s.heap.objs.size + 1) s.heap.objs.size (I.hok.fresh (Nat.le_succ _)) (I.hok.fresh (Nat.le_refl _)) hlt
  have J := Inv.made (C := C) I
  have run := F.run (X.A.under (.builtin "type.__call__" ⟨.ref C :: us, kw⟩)) X.stack _ _ ⟨.ref (s.heap.objs.size + 1) :: us, kw⟩ (bv (s.heap.objs.size + 1)) (bs (s.heap.objs.size + 1)) _ E (hr.make C us kw) (J.env0.make C us kw)
    (hb _ _ J.kIn) (r _) start
  refine wpAny_call (make_map (f := f) I.kIn M.makes M.init (beq_iff_eq.mp M.fn) (codeAny_mono run fun res s2 q => ?_))
  match res, q with
  | .error x, q => exact hx pins _ _ x s2 J q
  | .ok (.ret w), q =>
    obtain ⟨v, H', I3, rv, ev, q3⟩ := J.after q
    subst ev
    exact ⟨rv, V.ref (s.heap.objs.size + 1), H', I3, rfl, q3⟩
  | .ok .next, q => exact q.elim
  | .ok .brk, q => exact q.elim
  | .ok .cont, q => exact q.elim
theorem mk_rd {σ : L2.St} {m : Nat → Addr} {h : Hh} {H : Hp} {c : Nat} {C : Addr} {g : FD} {as : List D → List D} {bs : List V} {n : Nat} {Q : VK} (hC : cv c = .ref C) (k : Cls X.K C) (rh : RH (FX X cv fn none) m h H) (hn : bs.length + 1 = n)
    (ra : ∀ {m' N' H'} {d : D} {x : V}, Ge m h H m' (h ++ [.ins c []]) H' → N' = (h ++ [O.ins c []]).length → RD X.K m' N' H' d x → RDs X.K m' N' H' (as [d]) (x :: bs))
    (p : PO (FX X cv fn none) W (rdR (FX X cv fn none)) σ m h H ((g (as [.ref h.length]) (h ++ [.ins c []])).bind fun r h2 => match r with
      | .non => .ok (.ref h.length) h2
      | _ => .stuck) Q) :
    ∀ x dx, H x = none → H dx = none → dx ≠ x → spT (FX X cv fn none) n g (.ref x :: bs) (upd (upd H dx (.own x)) x (.ins C dx [])) (fun v H2 => v = .non ∧ Q (.ref x) H2) (WE W σ) := by
  intro x dx hx hd ne
  obtain ⟨m', g1, r1, rd⟩ := rh.made (c := c) hx hd ne hC k
  refine ⟨hn, m', h ++ [.ins c []], as [.ref h.length], r1, ra g1 rfl rd, PO.call ((p.base g1).bind fun r h2 m2 H2 v g2 rh2 rv p2 => ?_)⟩
  split at p2
  · cases rv
    exact ⟨rfl, p2.here rh2 (g2.rd rd)⟩
  · exact p2.elim
structure CtOk (X : Cx) (cv : Nat → Value) (fn : Nat → Str) (c : Nat) (C g : Addr) (k : Nat) (fd : FuncData) (ps : List Str) (f : FD) : Prop where
  hC : cv c = .ref C
  cl : Cls X.K C
  mkc : Mk X.K C g
  F : FnOk X.prog X.w X.K X.mg X.base (L2.CX X.prog X.w) k g fd ps (spT (FX X cv fn none) ps.length f)
  r : Room (k + 1) X.A
theorem s_mk {x : Str} {p : Pos} {es : List Expr} {c k : Nat} {C g : Addr} {fd : FuncData} {ps : List Str} {f : FD} {as : AD} {dds : List D} {dvs : List V} {ws : List Value} (K : CtOk X cv fn c C g k fd ps f) (hg : Gl X x) (hm : X.mg x = some (.ref C)) (ha : PA X es (PA_ (FX X cv fn none) W as)) (tk : Takes X W)
    (hlen : ∀ e h ds h', as e h = .ok ds h' → ds.length = es.length) (hnil : es = [] → as = aN) (hb : Binds X.K fd ps ws) (hd : Vals dvs ws) (hdd : ∀ m N H, RDs X.K m N H dds dvs) (hn : (es.length + 1) + dvs.length = ps.length)
    (hst : ∀ e r, es = e :: r → starEach (e :: r) X.env = (false, eval e X.env) :: starEach r X.env ∧ (backTo pos (starEach r X.env)).any (·.1) = false) (hdb : (x == ("__debug__" : Str)) = false) :
    PE X (.Call (.Name x p) es [] pos) (PE_ (FX X cv fn none) W (dMk c f as dds)) := by
  refine ⟨fun pins s σ H Q I hq => ?_⟩
  obtain ⟨m, e, h, rh, re, p⟩ := hq
  have pre : PA_ (FX X cv fn none) W as σ H fun vs H1 => vs.length = es.length ∧ ∀ y dx, H1 y = none → H1 dx = none → dx ≠ y → spT (FX X cv fn none) ps.length f (.ref y :: (vs ++ dvs)) (upd (upd H1 dx (.own y)) y (.ins C dx [])) (fun v H2 => v = .non ∧ Q (.ref y) H2) (WE W σ) :=
    ⟨m, e, h, rh, re, PO.bindE p fun ds h1 m1 H1 vs eq g1 rh1 r1 p1 => by
      have l1 : vs.length = es.length := by rw [← r1.length]; exact hlen _ _ _ _ eq
      refine ⟨l1, mk_rd (as := fun l => l ++ (ds ++ dds)) K.hC K.cl rh1 (by rw [List.length_append, l1]; omega) (fun {m' N' H' d x} g2 e2 r2 => ?_) p1⟩
      subst e2
      exact .cons r2 ((g2.rds r1).append (hdd _ _ _))⟩
  refine wpAny_Call_Name_kw (ld_glob I hg hm ?_ hdb)
  have fin : ∀ {s1 : Shared} {us : List Value} {vs : List V} {H1 : Hp}, Inv X pins σ H1 s1 → Vals vs us → (vs.length = es.length ∧ ∀ y dx, H1 y = none → H1 dx = none → dx ≠ y → spT (FX X cv fn none) ps.length f (.ref y :: (vs ++ dvs)) (upd (upd H1 dx (.own y)) y (.ins C dx [])) (fun v H2 => v = .non ∧ Q (.ref y) H2) (WE W σ)) →
      wpAny (model X.prog X.w) X.A (call (.ref C) us) (EP X pins σ Q) X.xe s1 := fun {s1 us vs H1} I1 r q => by
    have rr := r.append hd
    refine run_mk (bs := fun y => .ref y :: (vs ++ dvs)) (bv := fun y => .ref y :: (us ++ ws)) K.mkc K.F K.r (passAt tk σ) I1 (fun y s' kin => ?_) (fun y => .cons rfl rr) q.2
    have := hb s' (.ref y :: us) kin (by rw [List.cons_append, List.length_cons, ← rr.length, List.length_append, q.1]; omega)
    exact this
  cases es with
  | nil =>
    cases hnil rfl
    obtain ⟨m1, e1, h1, rh1, re1, p1⟩ := pre
    exact PySem.W.callWith_K0 I.kIn K.mkc.kp (fin (us := []) I .nil (p1.here rh1 .nil))
  | cons e1 er =>
    obtain ⟨h1, h2⟩ := hst e1 er rfl
    exact PySem.W.callWith_K (h₀ := X.base) I.ok.mod.kin K.mkc.kp (thn (ha.run pos pins s σ H _ I pre) fun us s2 ⟨vs, H2, I2, r2, q2⟩ => ⟨I2.kIn, fin I2 r2 q2⟩) h1 h2
theorem gKP_rds {K : PySem.W.Frag} {m : Nat → Addr} {N : Nat} {H : Hp} {us mv ws : List D} {vs nv zs : List V} (r1 : RDs K m N H us vs) (r2 : RDs K m N H mv nv) (r3 : RDs K m N H ws zs) : ∀ kp : List KP, RDs K m N H (gKP kp us mv ws) (gKP kp vs nv zs) := by
  have one : ∀ {as : List D} {bs : List V}, RDs K m N H as bs → ∀ i : Nat, (as[i]? = none ∧ bs[i]? = none) ∨ ∃ d v, as[i]? = some d ∧ bs[i]? = some v ∧ RD K m N H d v := fun {as bs} r i => by
    cases e : as[i]? with
    | none =>
      refine .inl ⟨rfl, ?_⟩
      have := List.getElem?_eq_none_iff.mp e
      exact List.getElem?_eq_none (by rw [← r.length]; exact this)
    | some d =>
      obtain ⟨v, h1, h2⟩ := r.get e
      exact .inr ⟨d, v, rfl, h1, h2⟩
  intro kp
  induction kp with
  | nil => exact .nil
  | cons q kp ih =>
    unfold gKP at ih ⊢
    rw [List.filterMap_cons, List.filterMap_cons]
    have key : (KP.gt us mv ws q = none ∧ KP.gt vs nv zs q = none) ∨ ∃ d v, KP.gt us mv ws q = some d ∧ KP.gt vs nv zs q = some v ∧ RD K m N H d v := by
      cases q with
      | p i => exact one r1 i
      | k i => exact one r3 i
      | c i => exact one r2 i
    rcases key with ⟨e1, e2⟩ | ⟨d, v, e1, e2, r⟩
    · rw [e1, e2]; exact ih
    · rw [e1, e2]; exact .cons r ih
theorem pk_D {fs : AD} {kws : List Keyword} {xs : Xs} {fe : ED} {nm : Option Str} {e : Expr} {kp : Pos} (ha : PE X e (PE_ (FX X cv fn xs) W fe)) (hr : PK X kws (PA_ (FX X cv fn xs) W fs)) : PK X (⟨nm, e, kp⟩ :: kws) (PA_ (FX X cv fn xs) W (aC fe fs)) :=
  ⟨fun pos pins s σ H Q I q => (pk_cons ha hr).run pos pins s σ H Q I (by
    obtain ⟨m, e, h, rh, re, p⟩ := q
    exact ⟨m, e, h, rh, re, p.bind fun d h1 m1 H1 v g1 rh1 r1 p1 => ⟨m1, e, h1, rh1, g1.re re, p1.bind fun ds h2 m2 H2 vs g2 rh2 r2 p2 => p2.here rh2 (.cons (g2.rd r1) r2)⟩⟩)⟩
theorem pk_D0 {xs : Xs} : PK X [] (PA_ (FX X cv fn xs) W aN) := ⟨fun pos pins s σ H Q I q => pk_nil.run pos pins s σ H Q I (by
  obtain ⟨m, e, h, rh, re, p⟩ := q
  exact p.here rh .nil)⟩
theorem s_mkK {x : Str} {p : Pos} {es : List Expr} {kws : List Keyword} {c k : Nat} {C g : Addr} {fd : FuncData} {ps ks : List Str} {f : FD} {as kd : AD} {kp : List KP} {dds : List D} {dvs : List V} {mv : List Value} (K : CtOk X cv fn c C g k fd ps f) (hg : Gl X x) (hm : X.mg x = some (.ref C)) (ha : PA X es (PA_ (FX X cv fn none) W as)) (hk : PK X kws (PA_ (FX X cv fn none) W kd)) (tk : Takes X W)
    (hlen : ∀ e h ds h', as e h = .ok ds h' → ds.length = es.length) (hlek : ∀ e h ds h', kd e h = .ok ds h' → ds.length = ks.length) (hnil : es = [] → as = aN)
    (hb : KBn X.K fd ps (es.length + 1) ks (fun us ws => gKP kp us mv ws) (fun vs zs => gKP kp vs dvs zs)) (hdd : ∀ m N H, RDs X.K m N H dds dvs) (hn : ∀ (us mv ws : List D), us.length = es.length + 1 → mv.length = dds.length → ws.length = ks.length → (gKP kp us mv ws).length = ps.length)
    (hst : ∀ e r, es = e :: r → starEach (e :: r) X.env = (false, eval e X.env) :: starEach r X.env)
    (hall : (backToKw pos (keywordEach kws X.env)).all (·.1.isSome) = true) (hks : (backToKw pos (keywordEach kws X.env)).filterMap (·.1) = ks)
    (hpl : ((backTo pos (starEach es X.env)).any (·.1) || (backToKw pos (keywordEach kws X.env)).any (·.1.isNone)) = false) (hdb : (x == ("__debug__" : Str)) = false) :
    PE X (.Call (.Name x p) es kws pos) (PE_ (FX X cv fn none) W (dMkK c f kp dds as kd)) := by
  refine ⟨fun pins s σ H Q I hq => ?_⟩
  obtain ⟨m, e, h, rh, re, p⟩ := hq
  have pre : PA_ (FX X cv fn none) W as σ H fun vs H1 => PA_ (FX X cv fn none) W kd σ H1 fun zs H2 => vs.length = es.length ∧ zs.length = ks.length ∧ ∀ y dx, H2 y = none → H2 dx = none → dx ≠ y →
      spT (FX X cv fn none) ps.length f (gKP kp (.ref y :: vs) dvs zs) (upd (upd H2 dx (.own y)) y (.ins C dx [])) (fun v H2 => v = .non ∧ Q (.ref y) H2) (WE W σ) :=
    ⟨m, e, h, rh, re, PO.bindE p fun ds h1 m1 H1 vs eq g1 rh1 r1 p1 => ⟨m1, e, h1, rh1, g1.re re, PO.bindE p1 fun zs h2 m2 H2 ws eq2 g2 rh2 r2 p2 => by
      have l1 : ds.length = es.length := hlen _ _ _ _ eq
      have l2 : zs.length = ks.length := hlek _ _ _ _ eq2
      refine ⟨by rw [← r1.length]; exact l1, by rw [← r2.length]; exact l2, fun y dx hy hd ne => ?_⟩
      obtain ⟨m', g3, r3, rd⟩ := rh2.made (c := c) hy hd ne K.hC K.cl
      have rr := gKP_rds (RDs.cons rd (g3.rds (g2.rds r1))) (hdd m' (h2 ++ [O.ins c []]).length _) (g3.rds r2) kp
      refine ⟨by rw [← rr.length]; exact hn _ _ _ (by rw [List.length_cons, l1]) rfl l2, m', h2 ++ [.ins c []], _, r3, rr, PO.call ((p2.base g3).bind fun r h4 m4 H4 v g4 rh4 rv p4 => ?_)⟩
      split at p4
      · cases rv
        exact ⟨rfl, p4.here rh4 (g4.rd rd)⟩
      · exact p4.elim⟩⟩
  refine wpAny_Call_Name_kw (ld_glob I hg hm ?_ hdb)
  have fin : ∀ {s1 : Shared} {us ws : List Value} {vs zs : List V} {H1 : Hp}, Inv X pins σ H1 s1 → Vals vs us → Vals zs ws → (vs.length = es.length ∧ zs.length = ks.length ∧ ∀ y dx, H1 y = none → H1 dx = none → dx ≠ y →
      spT (FX X cv fn none) ps.length f (gKP kp (.ref y :: vs) dvs zs) (upd (upd H1 dx (.own y)) y (.ins C dx [])) (fun v H2 => v = .non ∧ Q (.ref y) H2) (WE W σ)) → wpAny (model X.prog X.w) X.A (call (.ref C) us (ks.zip ws)) (EP X pins σ Q) X.xe s1 := fun {s1 us ws vs zs H1} I1 r rz q => by
    obtain ⟨q1, q2, q3⟩ := q
    refine run_mk (bs := fun y => gKP kp (.ref y :: vs) dvs zs) (bv := fun y => gKP kp (.ref y :: us) mv ws) K.mkc K.F K.r (passAt tk σ) I1 (fun y s' kin => ?_) (fun y => hb.rel (.cons rfl r) rz) q3
    exact hb.to s' (.ref y :: us) ws kin (by rw [List.length_cons, ← r.length, q1]) (by rw [← rz.length, q2])
  cases es with
  | nil =>
    cases hnil rfl
    obtain ⟨m1, e1, h1, rh1, re1, p1⟩ := pre
    refine PySem.W.callWith_KW0 (h₀ := X.base) I.ok.mod.kin K.mkc.kp hall (thn (hk.run pos pins s σ H _ I (p1.here rh1 .nil)) fun ws s2 ⟨zs, H2, I2, rz, q2⟩ => ⟨I2.kIn, ?_⟩) hpl
    rw [hks]
    exact fin (us := []) I2 .nil rz q2
  | cons e1 er =>
    refine PySem.W.callWith_KW (h₀ := X.base) I.ok.mod.kin K.mkc.kp hall (thn (ha.run pos pins s σ H _ I pre) fun us s1 ⟨vs, H1, I1, r1, q1⟩ => ?_) hpl (hst e1 er rfl)
    refine thn (hk.run pos pins s1 σ H1 _ I1 q1) fun ws s2 ⟨zs, H2, I2, rz, q2⟩ => ⟨I2.kIn, ?_⟩
    rw [hks]
    exact fin I2 r1 rz q2
end
end Mn
namespace Mn
open PySem L2
def spX (K : PySem.W.Frag) (C : Addr) (ns : List Str) : Sp := fun vs H Q _ => ∃ (a : Addr) (ys : List V), vs = .ref a :: ys ∧ ys.length = ns.length ∧ H a = some (exo a C none) ∧ ∀ dx, H dx = none → dx ≠ a → Q .non (upd (upd H dx (exd dx (ns.zip ys).reverse)) a (exo a C (some dx)))
section
variable {CX : CXT} {P : Program} {w : World} {K : PySem.W.Frag} {mg : Str → Option Value} {base : Heap} {f C : Addr} {name qual : Str} {params : Arguments} {scope : Scope} {dV kV doc pm cdv ct oc : Value} {an od : Option Addr} {osl : Array (Option Value)}
theorem vis_of {N ps : List Str} (S : FnScope N ps scope) {x : Str} (h : x ∈ ps) : Vis scope x := by
  rcases S.par x h with q | q
  · exact .inl q
  · exact .inr (.inl q)
theorem xinit1 {p n : Str} {p1 p2 p3 p4 : Pos} (lk : K.lookup f = some ⟨oc, od, .func (PySem.W.fnOf name qual params [.Assign [.Attribute (.Name "self" p1) n p2] (.Name p p3) p4] scope dV kV doc pm an cdv ct), osl⟩) (hcd : PySem.W.codeIn K cdv qual = true)
    (S : FnScope ["self", p] ["self", p] scope) (h1 : (p == ("__debug__" : Str)) = false) (h2 : (p == ("__classdict__" : Str)) = false) (T : OexC K C) (hn : PySem.W.findIn K (.ref C) n = some none) :
    FnOk P w K mg base CX 1 f (PySem.W.fnOf name qual params [.Assign [.Attribute (.Name "self" p1) n p2] (.Name p p3) p4] scope dV kV doc pm an cdv ct) ["self", p] (spX K C [n]) := by
  refine fn_of lk hcd S (fun vs H Q E h => ?_) fun A outer s H vs Q E hr h => ?_
  · obtain ⟨a, ys, rfl, hl, _⟩ := h
    rw [List.length_cons, hl]
    rfl
  · obtain ⟨a, ys, rfl, hl, ha, q⟩ := h
    match ys, hl with
    | [y], _ =>
      refine ⟨_, pss_one (ps_ost (pe_var (i := 0) rfl (vis_of S (.head _)) (by decide) (by decide)) (pe_var (i := 1) rfl (vis_of S (.tail _ (.head _))) h1 h2) rfl), ?_⟩
      exact ⟨y, rfl, .ref a, rfl, a, C, rfl, T, hn, .inl ⟨ha, fun dx hd ne => q dx hd ne⟩⟩
end
structure XcOk (X : Cx) (cv : Nat → Value) (c : Nat) (C : Addr) (fs : List Nat) : Prop where
  hC : cv c = .ref C
  T : OexC X.K C
  ini : ∃ (fI : Addr) (fd : FuncData) (ps : List Str), PySem.W.findIn X.K (.ref C) "__init__" = some (some (.ref fI)) ∧ PySem.W.typeIn X.K (.ref fI) = some (.type "function") ∧ FnOk X.prog X.w X.K X.mg X.base (L2.CX X.prog X.w) 1 fI fd ps (spX X.K C (fs.map fnm)) ∧ Binds X.K fd ps []
section
variable {X : Cx} {cv : Nat → Value} {fn : Nat → Str} {W : WX} {pos : Pos}
theorem pf_zip {K : PySem.W.Frag} {m : Nat → Addr} {N : Nat} {H : Hp} : ∀ {fs : List Nat} {ds : List D} {vs : List V}, RDs K m N H ds vs → Paired (PF K m N H) (fs.zip ds) ((fs.map fnm).zip vs)
  | [], _, _, _ => by simp; exact .nil
  | f :: fs, _, _, .nil => by simp; exact .nil
  | f :: fs, _, _, .cons a r => .cons ⟨rfl, a⟩ (pf_zip r)
theorem paired_rev {α β : Type} {R : α → β → Prop} : ∀ {as : List α} {bs : List β}, Paired R as bs → Paired R as.reverse bs.reverse := by
  have app : ∀ {as cs : List α} {bs ds : List β}, Paired R as bs → Paired R cs ds → Paired R (as ++ cs) (bs ++ ds) := fun {as cs bs ds} r s => by
    induction r with
    | nil => exact s
    | cons a _ ih => exact .cons a ih
  intro as bs r
  induction r with
  | nil => exact .nil
  | cons a r ih => rw [List.reverse_cons, List.reverse_cons]; exact app ih (.cons a .nil)
theorem s_raiseA {x : Str} {p1 p2 p3 : Pos} {e : Expr} {es : List Expr} {c : Nat} {C : Addr} {fs : List Nat} {as : AD} (K : XcOk X cv c C fs) (hc : X.calm = true) (tk : Takes X W) (hr : Room 2 X.A) (hg : Gl X x) (hm : X.mg x = some (.ref C)) (ha : PA X (e :: es) (PA_ (FX X cv fn none) W as)) (hne : fs ≠ []) (h900 : fs.length < 900)
    (hdb : (x == ("__debug__" : Str)) = false) (hst : starEach (e :: es) X.env = (false, eval e X.env) :: starEach es X.env) (hpl : (backTo p2 (starEach es X.env)).any (·.1) = false) :
    PS X (.Raise (some (.Call (.Name x p1) (e :: es) [] p2)) none p3) (PS_ (FX X cv fn none) W (sRaiseA c fs as)) := by
  obtain ⟨fI, fd, ps, i1, i2, F, hb⟩ := K.ini
  refine psImp (ps_raise hc tk (pmk_oex (dvs := []) (ds := []) K.T i1 i2 F hr hb .nil (fun pins σ H s e s' I q => ?_) hg hm ha hdb hst hpl)) fun D σ H q => ?_
  · exact tk e s' (XE.of_call I (fun _ _ _ h => h) (by
      have q' := q
      obtain ⟨_, _, _, _, _, _, _, _, _, _, _, _, z⟩ := q'
      exact z.elim))
  · obtain ⟨m, e0, h, rh, re, p⟩ := q
    refine ⟨m, e0, h, rh, re, PO.toS re p fun ds h1 m1 H1 vs g1 rh1 r1 p1 => ?_⟩
    split at p1
    · rename_i hl
      have lv : vs.length = fs.length := by rw [← r1.length]; exact hl
      refine ⟨by omega, fun a hna => ⟨a, vs ++ [], rfl, by rw [List.append_nil, List.length_map]; exact lv, upd_same, fun dx hd ne => ⟨rfl, dx, ((fs.map fnm).zip (vs ++ [])).reverse, upd_same, by rw [upd_ne ne, upd_same], ?_, ?_⟩⟩⟩
      · rw [upd_ne ne] at hd; exact hd
      · have hd1 : H1 dx = none := by rw [upd_ne ne] at hd; exact hd
        rw [List.append_nil]
        have e : upd (del (upd (upd (upd H1 a (exo a C none)) dx (exd dx ((fs.map fnm).zip vs).reverse)) a (exo a C (some dx))) a) dx (.xd ((fs.map fnm).zip vs).reverse) = upd H1 dx (.xd ((fs.map fnm).zip vs).reverse) := by
          funext b
          by_cases hb : b = dx
          · subst hb; rw [upd_same, upd_same]
          · rw [upd_ne hb, upd_ne hb]
            by_cases hc : b = a
            · subst hc; rw [del_same]; exact hna.symm
            · rw [del_ne hc, upd_ne hc, upd_ne hb, upd_ne hc]
        rw [e]
        obtain ⟨g2, rh2⟩ := rh1.lay (u := .xd ((fs.map fnm).zip vs).reverse) hd1
        refine p1 m1 _ σ (.ref C) (some dx) g2 rh2 (g2.re (g1.re re)) ⟨K.hC.symm, fun z => ?_, fun _ => ⟨dx, _, rfl, upd_same, paired_rev (pf_zip (g2.rds r1))⟩⟩
        exfalso
        have z2 := congrArg List.length z
        simp only [List.length_reverse, List.length_zip, List.length_nil, hl, Nat.min_self] at z2
        exact hne (List.length_eq_zero_iff.mp z2)
    · exact p1.elim
end
section
open PySem.W PySem.Spec PySem.Calls PyProof.Rows
variable {prog : Program} {w : World} {A : Around} {EE : Value → Shared → Prop} {st : Shared} {K : Frag} {y D : Addr} {oy : Obj} {dd : Option Obj}
theorem find_cls {nm : Str} {b g : Value} (h0 : (clsIn K D).isSome = true) (h1 : findIn K (.ref D) nm = some (some b)) (h2 : specialIn K b "__get__" = some (some g)) (h3 : takesIn K b = some true) : findObj K D dd nm = some (.bind g b) := by
  obtain ⟨cd, h0⟩ := Option.isSome_iff_exists.mp h0
  unfold findObj
  simp [h0, h1, h2, h3]
theorem cls_told {Q : Option Value → Shared → Prop} (C : ExcC K D) (X : K.In st.heap) (J : InstAt st.heap y oy D dd) (h : Q (some (.ref D)) { st with toks := st.toks + 1 }) : wpAny (model prog w) A (getAttr? (.ref y) "__class__") Q EE st := by
  have found : findObj K D dd "__class__" = some (.bind (.builtin "getset_descriptor.__get__") (.builtin "object.__class__")) := find_cls (by obtain ⟨cd, e, _⟩ := any_some C.hd; rw [e]; rfl) C.ha C.hn C.ht
  obtain ⟨hh, gg, dr, tk, os⟩ := st
  have ty := J.type (M := model prog w)
  have own := looks_findIn (M := model prog w) X C.hg; have hook := looks_findIn (M := model prog w) X C.hk
  have look := looks_find (M := model prog w) X J found
  have isx : Looks (model prog w) hh (isInstance (.ref y) (.type "BaseException")) true := ty.andThen (looks_subIn X C.hs)
  have n1 : (Value.builtin "BaseException.__getattribute__" == Value.builtin "object.__getattribute__") = false := by decide +kernel
  have n2 : (onTheHeap (Value.ref D) && Value.builtin "BaseException.__getattribute__" == Value.builtin "object.__getattribute__") = false := by rw [n1]; rfl
  have n3 : (false && onTheHeap (Value.builtin "BaseException.__getattribute__")) = false := rfl
  unfold getAttr? getAttrBy? getAttrBy; refine wpAny_bind (wpAny_mkText (wpAny_bind (wpAny_attempt (wpAny_holding (wpAny_bind (ty.at (wpAny_bind (own.at ?_)))))))); show wpAny _ _ (if (onTheHeap (Value.ref D) && Value.builtin "BaseException.__getattribute__" == Value.builtin "object.__getattribute__") = true then _ else _) _ _ _
  rw [n2, if_neg Bool.false_ne_true]; unfold getAttrByItsOwn hookBefore; refine wpAny_bind ?_; rw [if_pos (show onTheHeap (Value.ref D) = true from rfl)]; refine hook.at (wpAny_bind (wpAny_attempt (wpAny_holding ?_)))
  unfold callGetattribute; rw [n3, if_neg Bool.false_ne_true]; unfold boundAndCalled; rw [PySem.F.excAttr_ValueError.ga.bind (.ref y)]; refine wpAny_bind (wpAny_pure ?_)
  show wpAny _ _ (call (.builtin "BaseException.__getattribute__") [.ref y, .str "__class__" tk]) _ _ _
  refine wpAny_call (codeAny_call_builtin PySem.F.excAttr_ValueError.ga.plain PySem.F.entry_bexc_ga (@check_slot (model prog w) _ _ ⟨hh, gg, dr, tk + 1, os⟩ "BaseException.__getattribute__" "BaseException" "__getattribute__" (.ref y) [.str "__class__" tk] [] _ (by decide +kernel) (by decide +kernel) isx (PySem.F.args_bexc_ga (.ref y) (.str "__class__" tk)) ?_))
  unfold Builtin.«object.__getattribute__»; refine wpAny_bind (wpAny_of_eq (a := ((Value.ref y : Value), [Value.str "__class__" tk])) (by first | rfl | (simp only [slotArgs]; rfl)) (wpAny_bind (wpAny_pure (wpAny_bind (ty.at (wpAny_bind (look.at ?_)))))))
  show wpAny _ _ (holding [Value.builtin "object.__class__"] (call (.builtin "getset_descriptor.__get__") [.builtin "object.__class__", .ref y, .ref D]) >>= ret) _ _ _
  refine wpAny_bind (wpAny_holding (wpAny_call (class_get (s := ⟨hh, gg, dr, tk + 1, os⟩) (ox := oy) (od := dd) X J C.hm (wpAny_pure ?_)))); show wpAny _ _ (handedOut (.ref D)) _ _ _
  rw [handedOut_of (v := .ref D) rfl]
  first
    | exact wpAny_pure (wpAny_pure h)
    | exact wpAny_pure h
theorem kit_told (C : ExcC K D) : KitX K (.ref y) (.ref D) (fun h => ∃ dd, InstAt h y oy D dd) where
  ty := fun _ _ _ ⟨_, J⟩ => J.type
  it := fun _ _ X _ => by
    obtain ⟨cd, e, _⟩ := any_some C.hd
    unfold clsIn at e; split at e
    · rename_i hD; intro A' Q' E' s' k q; unfold isType loadHead; exact wpAny_bind (wpAny_loadPart (k _ _ (X _ _ hD)) (wpAny_pure q))
    · cases e
  ne := fun h tp dd its n sl X htp => by
    obtain ⟨cd, e, _⟩ := any_some C.hd
    refine Bool.eq_false_iff.mpr fun q => ?_
    cases Value.ref.inj (beq_iff_eq.mp q)
    unfold clsIn at e; split at e
    · rename_i hD; have z := (X _ _ hD).symm.trans htp; cases z
    · cases e
  ca := fun X ⟨_, J⟩ k => cls_told C X J k
end
section
variable {X : Cx} {a D : Addr} {oe : Obj} {pn : List (Addr × Obj)}
theorem isi_told {d : Option Addr} (C : ExcC X.K D) (hz : Zc (.ref D) d oe) (hf : ∃ vs, oe.data = .fields vs) :
    CallR (X.suite a ((a, oe) :: pn)) (.builtin "isinstance") (fun xs H Q => ∃ (c : V) (cv : Value) (b : Bool), xs = [.ref a, c] ∧ (∀ dd, d = some dd → ∃ fs, H dd = some (.xd fs)) ∧ (∀ u, RelV c u → u = cv) ∧ PySem.W.kitOne X.K (.ref D) cv = some b ∧ Q (.bl b) H) := by
  intro pins s σ H xs us Q I r ⟨c, cv, b, e0, hd, hcv, e, q⟩
  subst e0
  match us, r with
  | [_, _], .cons rx (.cons rt .nil) =>
    cases rx; cases hcv _ rt
    obtain ⟨hget, _⟩ := I.pin (a, oe) (List.mem_append.mpr (.inl List.mem_cons_self))
    obtain ⟨vs, hv⟩ := hf
    have J : ∃ dd, PySem.W.InstAt s.heap a oe D dd := by
      cases d with
      | none => exact ⟨none, hget, hz.1, by unfold PySem.W.notCls; rw [hv] <;> rfl, by rw [hz.2]; trivial⟩
      | some dd =>
        obtain ⟨fs, hx⟩ := hd dd rfl
        have ok : ObjOk X.prog X.w H s.heap dd (.xd fs) := I.hok dd _ hx
        obtain ⟨mA, hns, hr⟩ := ok
        obtain ⟨od, ho, _⟩ := lookIn_ns hns
        exact ⟨some od, hget, hz.1, by unfold PySem.W.notCls; rw [hv] <;> rfl, by rw [hz.2]; exact ho⟩
    exact PySem.W.kia_one (kit_told C) I.kIn J e (fun z => nomatch z) fun tk => ⟨.bl b, H, I.kept (t' := tk) fun _ _ z => z, rfl, q⟩
end
end Mn
namespace Mn
open PySem L2
def gSeq : List Tg → List D → Ev → Option Ev
  | [], [], e => some e
  | t :: ts, d :: ds, e => match t d e with
    | some e1 => gSeq ts ds e1
    | none => none
  | _, _, _ => none
def gTm (ts : List Tg) : Tg := fun d e => match d with
  | .tup ds => gSeq ts ds e
  | _ => none
section
variable {X : Cx} {cv : Nat → Value} {fn : Nat → Str} {xs : Xs} {W : WX} {pos : Pos}
def PGs_ (T : Fx) (is : List Nat) (ts : List Tg) : TGs := fun vs σ H Q => ∃ m h ds e e1, RH T m h H ∧ RE T m h.length H e σ ∧ RDs T.K m h.length H ds vs ∧ gSeq ts ds e = some e1 ∧ ∀ σ', RE T m h.length H e1 σ' → But is σ σ' → Q σ' H
theorem But.trans {is js : List Nat} {σ σ1 σ2 : L2.St} (a : But is σ σ1) (b : But js σ1 σ2) : But (is ++ js) σ σ2 :=
  ⟨b.1.trans a.1, fun j hj => by rw [List.mem_append, not_or] at hj; exact (b.2 j hj.2).trans (a.2 j hj.1)⟩
theorem gSeq_len : ∀ {ts : List Tg} {ds : List D} {e e1 : Ev}, gSeq ts ds e = some e1 → ds.length = ts.length
  | [], [], _, _, _ => rfl
  | t :: ts, d :: ds, e, e1, h => by
    unfold gSeq at h
    split at h
    · exact congrArg Nat.succ (gSeq_len h)
    · cases h
  | [], _ :: _, _, _, h => by cases h
  | _ :: _, [], _, _, h => by cases h
def isTg : Expr → Bool
  | .Name .. | .Tuple .. => true
  | _ => false
inductive TgOk (X : Cx) (T : Fx) : List Expr → List Nat → List Tg → Prop
  | nil : TgOk X T [] [] []
  | cons {e : Expr} {es : List Expr} {is js : List Nat} {t : Tg} {ts : List Tg} : isTg e = true → PG X e (PG_ T is t) → TgOk X T es js ts → TgOk X T (e :: es) (is ++ js) (t :: ts)
theorem tgs_ok {T : Fx} {es : List Expr} {is : List Nat} {ts : List Tg} (k : TgOk X T es is ts) : PGs X es (PGs_ T is ts) ∧ (assignEach es X.env).length = ts.length ∧ (assignEach es X.env).findIdx? (·.1) = none := by
  induction k with
  | nil =>
    refine ⟨⟨fun pins s σ H vs us Q I r q => (pgs_nil (X := X)).run pins s σ H vs us Q I r ?_⟩, rfl, rfl⟩
    obtain ⟨m, h, ds, e, e1, rh, re, rd, eg, q⟩ := q
    cases rd with
    | nil =>
      cases eg
      exact ⟨rfl, q σ re ⟨rfl, fun _ _ => rfl⟩⟩
    | cons _ _ => cases eg
  | @cons e0 es is js t ts hn hg k ih =>
    obtain ⟨i1, i2, i3⟩ := ih
    have c1 : (assignEach (e0 :: es) X.env).map (·.2) = assign e0 X.env :: (assignEach es X.env).map (·.2) := by
      cases e0 <;> first | (cases hn; done) | rfl
    refine ⟨⟨fun pins s σ H vs us Q I r q => (pgs_cons hg i1 c1).run pins s σ H vs us Q I r ?_⟩, ?_, ?_⟩
    · obtain ⟨m, h, ds, e, e1, rh, re, rd, eg, q⟩ := q
      cases rd with
      | nil => cases eg
      | @cons d v ds vs a b =>
        unfold gSeq at eg
        split at eg
        · rename_i e2 h2
          exact ⟨v, vs, rfl, m, h, d, e, e2, rh, re, a, h2, fun σ1 re1 b1 => ⟨m, h, ds, e2, e1, rh, re1, b, eg, fun σ2 re2 b2 => q σ2 re2 (b1.trans b2)⟩⟩
        · cases eg
    · have : (assignEach (e0 :: es) X.env).length = (assignEach es X.env).length + 1 := by
        cases e0 <;> first | (cases hn; done) | rfl
      rw [this, i2]
      rfl
    · have : ∃ b, assignEach (e0 :: es) X.env = (false, b) :: assignEach es X.env := by
        cases e0 <;> first | (cases hn; done) | exact ⟨_, rfl⟩
      obtain ⟨b, eb⟩ := this
      rw [eb, List.findIdx?_cons, i3]
      rfl
theorem g_tm {es : List Expr} {is : List Nat} {ts : List Tg} {k : Nat} (hc : X.calm = true) (ho : TgOk X (FX X cv fn xs) es is ts) : PG X (.Tuple es k pos) (PG_ (FX X cv fn xs) is (gTm ts)) := by
  obtain ⟨h1, h2, h3⟩ := tgs_ok ho
  refine pgImp (pg_tup hc h1 h2 h3) fun v σ H Q q => ?_
  obtain ⟨m, h, d, e, e1, rh, re, rd, eg, k⟩ := q
  cases d with
  | tup ds =>
    cases rd with
    | tup sq r => exact ⟨_, _, rfl, sq, by rw [← r.length]; exact gSeq_len eg, m, h, ds, e, e1, rh, re, r, eg, k⟩
  | _ => cases eg
end
end Mn
namespace Mn
open PySem PySem.Spec PyProof.Rows L2
abbrev kAt (ks : List Key) (i : Nat) : Key := ks.getD i (.inl 0)
def hasK (ks : List Key) (i : Nat) (k : Key) : Bool := (ks.take i).any fun j => decide (k = j)
def cntF (ks : List Key) : Nat → Nat
  | 0 => 0
  | i + 1 => if hasK ks i (kAt ks i) = true then cntF ks i else cntF ks i + 1
theorem cntF_le (ks : List Key) : ∀ i, cntF ks i ≤ i
  | 0 => Nat.le_refl _
  | i + 1 => by
    have := cntF_le ks i
    unfold cntF
    split <;> omega
theorem hasK_succ {ks : List Key} {i : Nat} (hi : i < ks.length) (k : Key) : hasK ks (i + 1) k = (hasK ks i k || decide (k = kAt ks i)) := by
  unfold hasK
  rw [List.take_succ_eq_append_getElem hi, List.any_append, List.any_cons, List.any_nil, Bool.or_false]
  congr 1
  have e : kAt ks i = ks[i] := by simp [kAt, List.getD, hi]
  rw [e]
section
variable {P : Program} {w : World} {A : Around} {R : Result → Shared → Prop} {it D : Addr} {fp wr : List Addr} {G : Array GenState → Array GenState → Prop} {N : Nat} {Pv : Nat → Value → Prop} {St : Nat → Shared → Prop} {ks : List Key}
def Sk (P : Program) (w : World) (D : Addr) (ks : List Key) (i : Nat) (h : Heap) : Prop := h.SetOf (mixKind P w) D (hasK ks i) (cntF ks i)
theorem Sk.on {i : Nat} {h h' : Heap} (q : Sk P w D ks i h) (k : ∀ o, h.get? D = some o → h'.get? D = some o) : Sk P w D ks i h' := by
  obtain ⟨o, es, ep, t, ho, r⟩ := q
  exact ⟨o, es, ep, t, k o ho, r⟩
theorem upK (W : WalksS P w A.in1 it fp wr G N Pv St) (hD : D ∉ fp) (hl : ks.length = N) (hN : N < 4000) (hv : ∀ i v, Pv i v → RelV (kV (kAt ks i)) v) (m : Nat) :
    ∀ (i : Nat) (s : Shared), N - i = m → i ≤ N → St i s → Sk P w D ks i s.heap → (∀ s', Moved (D :: wr) G s s' → Sk P w D ks N s'.heap → R (.ok (.ret .none)) s') →
      codeAny (model P w) A (.builtin "set.update.loop" ⟨[.ref D, .ref it], []⟩) R s := by
  have dw : D ∉ wr := fun z => hD (W.sub _ z)
  have up : ∀ b ∈ wr, b ∈ D :: wr := fun b z => .tail _ z
  induction m with
  | zero =>
    intro i s em le st q fin
    have e : i = N := by omega
    subst e
    refine codeAny_builtin F.entry_set_update_loop ?_
    rw [Around.under_plainId F.plain_set_update_loop _]
    show wpAny _ A.in1 (pyNext (.ref it) >>= _) _ _ s
    refine wpAny_bind (W.done s _ _ st fun s1 mv => ?_)
    show wpAny _ A.in1 (ret Value.none) _ _ s1
    exact wpAny_pure (fin s1 (mv.mono up) (q.on fun o z => mv.heap D o dw z))
  | succ m ih =>
    intro i s em le st q fin
    have lt : i < N := by omega
    refine codeAny_builtin F.entry_set_update_loop ?_
    rw [Around.under_plainId F.plain_set_update_loop _]
    show wpAny _ A.in1 (pyNext (.ref it) >>= _) _ _ s
    refine wpAny_bind (W.item i s _ _ lt st fun v s1 pv st1 mv => ?_)
    have rv := hv i v pv
    have q1 : Sk P w D ks i s1.heap := q.on fun o z => mv.heap D o dw z
    show wpAny _ A.in1 (holding [v] (setAdd D v) >>= _) _ _ s1
    refine wpAny_bind (wpAny_holding ?_)
    unfold setAdd
    refine wpAny_holding ?_
    refine wpAny_bind ((mixKind P w).pyHash (kV_is rv) ?_)
    have room : cntF ks i + 1 < scanBound := by have := cntF_le ks i; unfold scanBound; omega
    refine wpAny_setAddHashed_of (knd := mixKind P w) (s := { s1 with toks := s1.toks + 1 }) (kV_is rv) (key_scan rv) q1 room fun h2 sb q2 => ?_
    have q3 : Sk P w D ks (i + 1) h2 := by
      have ef : hasK ks (i + 1) = fun k' => hasK ks i k' || decide (k' = kAt ks i) := funext fun k => hasK_succ (by omega) k
      unfold Sk
      rw [ef]
      show h2.SetOf (mixKind P w) D _ (if hasK ks i (kAt ks i) = true then cntF ks i else cntF ks i + 1)
      exact q2
    refine wpAny_pure ⟨plainId_quiet F.plain_set_update_loop _, ih (i + 1) _ (by omega) lt (W.frame _ s1 _ _ st1 (Nat.le_succ _) fun b z o e => ?_) q3 fun s3 mv3 q4 => ?_⟩
    · rw [sb.2 b (fun z2 => hD (z2 ▸ z))]; exact e
    · refine fin s3 (Moved.trans W.gtrans ((mv.mono up).then_heap (Nat.le_succ _) fun b o z e => ?_) mv3) q4
      rw [sb.2 b (fun z2 => z (by rw [z2]; exact List.mem_cons_self ..))]; exact e
end
section
variable {P : Program} {w : World} {A : Around} {E : Value → Shared → Prop} {s : Shared}
def vKeys (ks : List Key) (us : List Value) : Prop := Vals (ks.map kV) us
theorem vKeys.get {ks : List Key} {us : List Value} (r : vKeys ks us) {i : Nat} {v : Value} (h : us[i]? = some v) : RelV (kV (kAt ks i)) v := by
  have hi : i < us.length := (List.getElem?_eq_some_iff.mp h).1
  have r0 : Vals (ks.map kV) us := r
  have hl : us.length = ks.length := by rw [← r0.length, List.length_map]
  obtain ⟨w, hw, rw'⟩ := Vals.get r0 (i := i) (x := kV (kAt ks i)) (by simp [kAt, List.getD, show i < ks.length by omega])
  rw [h] at hw
  cases hw
  exact rw'
abbrev e0 (led : Bool) : Obj := { cls := .type "set", dict := none, data := .set #[] 0 (.fresh 0 0 led) }
set_option maxHeartbeats 3200000 in
theorem mkSetK {l : Addr} {us : Array Value} {ks : List Key} {Q : Value → Shared → Prop} (hh : A.handled = none) (hl : s.heap.IsList l us) (hv : vKeys ks us.toList) (h4 : ks.length < 4000)
    (q : ∀ (h2 : Heap) (tk : Nat), Sk P w s.heap.objs.size ks ks.length h2 → (∀ b o, b < s.heap.objs.size → s.heap.get? b = some o → h2.get? b = some o) → Q (.ref s.heap.objs.size) { s with heap := h2, toks := tk }) :
    wpAny (model P w) A (call (.type "set") [.ref l]) Q E s := by
  have hul : us.size = ks.length := by rw [← Array.length_toList, ← hv.length, List.length_map]
  obtain ⟨c, tl, mro0⟩ := F.called_set.mro
  have made0 := F.called_set.made
  have sub0 := F.called_set.sub
  refine wpAny_call (codeAny_of_tree ?_)
  show wpAny _ _ (callAny (.type "set") _) _ _ _
  refine wpAny_pure ⟨Code.quiet_builtin _ (by decide +kernel), codeAny_builtin F.entry_type_call ?_⟩
  rw [Around.under_plain (weight_type_call_type "set" [.ref l] []) rfl]
  have nt0 := F.called_set.notType
  have cc0 := F.called_set.canCreate
  have tc0 := F.typeCall_set_1 (.ref l)
  repeat (any_goals (first | assumption | wp_step))
  refine codeAny_mono (code_set_new_1 (.ref l) (E := E) (Q₁ := fun x s1 => ∃ led, x = .ref s.heap.objs.size ∧ s1 = { s with heap := s.heap.push (e0 led) }) fun led => ⟨led, rfl, rfl⟩) fun r1 s1 g1 => ?_
  cases r1 with
  | error e => exact g1
  | ok fl1 =>
    cases fl1 with
    | ret x =>
      obtain ⟨led, rfl, rfl⟩ := g1
      have at0 : (s.heap.push (e0 led)).get? s.heap.objs.size = some (e0 led) := Heap.get?_push_size _ rfl
      have ty0 : Shared.TypeIs { s with heap := s.heap.push (e0 led) } (.ref s.heap.objs.size) "set" := ⟨_, at0, rfl⟩
      have lk0 := F.called_set.init.lookup
      have bi0 := F.called_set.init.bind (.ref s.heap.objs.size)
      repeat (any_goals (first | assumption | wp_step))
      refine codeAny_mono (codeAny_call_builtin (R := wants (fun x s2 => x = .none ∧ ∃ h2 tk, s2 = { s with heap := h2, toks := tk } ∧ Sk P w s.heap.objs.size ks ks.length h2 ∧
        ∀ b o, b < s.heap.objs.size → s.heap.get? b = some o → h2.get? b = some o) E) F.called_set.init.plain F.entry_set_init (check_set_init_1 ty0 ?_)) fun r2 s2 g2 => ?_
      · obtain ⟨⟨lc, ld, ldt, lsl⟩, atl, cl0, nl, dl0⟩ := hl
        simp only at cl0 dl0
        subst cl0; subst dl0
        have atl2 : (s.heap.push (e0 led)).get? l = some { cls := .type "list", dict := ld, data := .seq us nl, slots := lsl } := Heap.get?_push_of_some _ atl
        have su1 := F.sub_list_set
        have su2 := F.sub_list_frozenset
        have nd0 : (Value.type "list" == Value.type "dict") = false := by decide
        have il0 : (s.heap.push (e0 led)).IsList l us := ⟨_, atl2, rfl, nl, rfl⟩
        unfold Builtin.«set.__init__» noKeywords Builtin.Frozenset.updateFrom
        generalize gpi : pyIter = PI
        wp_walk
        subst gpi
        refine wpAny_pyIter_list il0 ?_
        refine wpAny_bind (wpAny_runValue ?_)
        have ltl : l < s.heap.objs.size := Heap.lt_size atl
        have hh3 : A.in1.in1.in1.handled = none := by simp [hh]
        have sz0 : (s.heap.push (e0 led)).objs.size = s.heap.objs.size + 1 := Heap.size_push ..
        have n1 : l ≠ (s.heap.push (e0 led)).objs.size := fun z => Nat.ne_of_lt (Nat.lt_succ_of_lt ltl) (z.trans sz0)
        have n2 : s.heap.objs.size ∉ [(s.heap.push (e0 led)).objs.size, l] := fun z => by
          rcases List.mem_cons.mp z with z | z
          · exact Nat.ne_of_lt (Nat.lt_succ_self _) (z.trans sz0)
          · exact Nat.ne_of_gt ltl (List.mem_singleton.mp z)
        refine upK (ks := ks) (P := P) (w := w) ((Walks.list hh3 _ l n1 us).toS) n2 hul.symm (by omega) (fun i v pv => hv.get (by rw [Array.getElem?_toList]; exact pv)) (us.size - 0) 0 _ (by omega) (Nat.zero_le _) ⟨⟨_, Heap.get?_push_size _ rfl, rfl, rfl⟩, il0.push _⟩ ?start ?stop
        case start =>
          have g0 := Heap.get?_push_of_some { cls := .type "list_iterator", data := .fields #[.ref l, .int 0 0] } at0
          have ef : hasK ks 0 = fun _ => false := funext fun k => by
            unfold hasK
            rw [List.take_zero]
            rfl
          unfold Sk
          rw [ef]
          exact ⟨_, #[], 0, _, g0, ⟨rfl, rfl, rfl⟩, rfl, (fun x hx => by simp at hx), (fun x => by simp), by decide, by rfl, rfl⟩
        case stop =>
          intro s3 mv q3
          obtain ⟨h3, g3, d3, tk3, os3⟩ := s3
          have eg := mv.gens
          have ed := mv.drawn
          have eo := mv.os
          simp only at eg ed eo
          subst eg; subst ed; subst eo
          show wpAny _ _ _ _ _ _
          refine wpAny_pure ?_
          show wpAny _ _ (ret Value.none) _ _ _
          refine wpAny_pure ⟨rfl, h3, tk3, rfl, by rw [← hul]; exact q3, fun b o lb e => ?_⟩
          refine mv.heap b o (fun z => ?_) (Heap.get?_push_of_some _ (Heap.get?_push_of_some _ e))
          rcases List.mem_cons.mp z with z | z
          · exact Nat.ne_of_lt lb z
          · exact Nat.ne_of_lt (Nat.lt_succ_of_lt lb) ((List.mem_singleton.mp z).trans sz0)
      · cases r2 with
        | error e => exact g2
        | ok fl2 =>
          cases fl2 with
          | ret x =>
            obtain ⟨rfl, h2, tk, rfl, q2, k2⟩ := g2
            repeat (any_goals (first | assumption | wp_step))
            exact q _ _ q2 k2
          | _ => exact g2.elim
    | _ => exact g1.elim
end
section
variable {X : Cx}
def tSetK (K : PySem.W.Frag) (ta : TE) : TE := fun σ H Q => ta σ H fun x H1 => ∃ (l : Addr) (ks : List Key), x = .ref l ∧ SqL K H1 l (ks.map kV) ∧ ks.length < 4000 ∧ Q (.int (cntF ks ks.length : Nat)) H1
theorem pe_setK {a : Expr} {ta : TE} {p p2 q pos : Pos} (hc : X.calm = true) (g1 : Gl X "len") (m1 : X.mg "len" = none) (g2 : Gl X "set") (m2 : X.mg "set" = none) (ha : PE X a ta)
    (na : starEach [a] X.env = (false, eval a X.env) :: starEach [] X.env := by rfl) : PE X (.Call (.Name "len" p) [.Call (.Name "set" p2) [a] [] q] [] pos) (tSetK X.K ta) := by
  refine ⟨fun pins s σ H Q I h => ?_⟩
  refine Call_ (ld_blt I g1 m1 boot_len ?_)
  refine callWith_builtin1 (args_cons ?_ rfl) rfl rfl
  refine Call_ (ld_blt I g2 m2 boot_set ?_)
  refine callWith_type1 (args_cons (thn (ha.run pins s σ H _ I h) fun v s1 ⟨x, H1, I1, r1, q1⟩ => args_nil ?_) na) na rfl
  obtain ⟨l, ks, rfl, sq, h4, q1⟩ := q1
  cases r1
  obtain ⟨us, r, pl, hz⟩ := I1.list sq
  have r' : vKeys ks us.toArray.toList := by
    show Vals _ _
    simpa using r
  refine mkSetK (I1.ok.hd hc) pl.isList r' h4 fun h2 tk q2 k2 => args_nil ?_
  obtain ⟨o, es, ep, t, ho, hex, hd, _, _, _, hf, hn⟩ := q2
  have I2 : Inv X pins σ H1 { s1 with heap := h2, toks := tk } := I1.kept fun b o e => k2 b o (Heap.lt_size e) e
  have le := cntF_le ks ks.length
  exact call_len_set ho hex hd hf (by rw [hn]; omega) ⟨.int (cntF ks ks.length : Nat), H1, I2.tok _, ⟨_, by rw [hn]⟩, q1⟩
end
def dKey : D → Option Key
  | .int i => some (.inl i)
  | .str x => some (.inr x)
  | _ => none
def dKeys : List D → Option (List Key)
  | [] => some []
  | d :: ds => match dKey d, dKeys ds with
    | some k, some ks => some (k :: ks)
    | _, _ => none
theorem dKeys_rd {K : PySem.W.Frag} {m : Nat → Addr} {N : Nat} {H : Hp} : ∀ {ds : List D} {vs : List V} {ks : List Key}, RDs K m N H ds vs → dKeys ds = some ks → vs = ks.map kV
  | _, _, _, .nil, h => by cases h; rfl
  | d :: ds, _, ks, .cons a r, h => by
    unfold dKeys at h
    split at h
    · rename_i k ks' h1 h2
      cases h
      rw [List.map_cons, ← dKeys_rd r h2]
      congr 1
      cases d with
      | int i => cases h1; cases a; rfl
      | str x => cases h1; cases a; rfl
      | _ => cases h1
    · cases h
def fLenS : FD := fun ds h => match ds with
  | [.ref n] => match lstAt h n with
    | some xs => match dKeys xs with
      | some ks => if ks.length < 4000 then .ok (.int (cntF ks ks.length : Nat)) h else .stuck
      | none => .stuck
    | none => .stuck
  | _ => .stuck
end Mn
namespace Mn
open PySem PySem.Spec PyProof.Rows L2
abbrev Cl := Value × Option Nat × (Addr → Value → Option Addr → TS)
def offE : Option Nat → Ends → Ends
  | none, Ed => Ed
  | some i, Ed => ⟨fun τ L => Ed.nx (τ.set i none) L, Ed.rt, fun τ L => Ed.bk (τ.set i none) L, fun τ L => Ed.ct (τ.set i none) L⟩
def onS : Option Nat → Addr → L2.St → L2.St
  | none, _, τ => τ
  | some i, ad, τ => τ.set i (some (.ref ad))
def wMs (K : PySem.W.Frag) (Wout : WX) (Ed : Ends) : List Cl → WX
  | [] => Wout
  | (c, sl, ts) :: rs => fun ty dx τ L => ∃ bv, PySem.W.exmOne K ty c = some bv ∧ (bv = true → ∀ ad, L ad = none → ts ad ty dx (offE sl Ed) (onS sl ad τ) L) ∧ (bv = false → wMs K Wout Ed rs ty dx τ L)
abbrev SuOk (X : Cx) (b₀ : Stmt) (suite : List Stmt) (ts : Addr → Value → Option Addr → TS) : Prop :=
  ∀ (ad : Addr) (oc : Obj) (ty : Value) (dx : Option Addr) (pn : List (Addr × Obj)), Zc ty dx oc → (∃ vs, oc.data = .fields vs) → PSs (X.suite ad ((ad, oc) :: pn)) (b₀ :: suite) (ts ad ty dx)
inductive HdsM (X : Cx) : List ExceptHandler → List Cl → Prop
  | nil : HdsM X [] []
  | one {x : Str} {c : Value} {ts : Addr → Value → Option Addr → TS} {b₀ : Stmt} {suite : List Stmt} {np pos' : Pos} {hds : List ExceptHandler} {l : List Cl} (hc : Names X x c) (hsu : SuOk X b₀ suite ts) (r : HdsM X hds l) :
      HdsM X (.ExceptHandler (some (.Name x np)) none (b₀ :: suite) pos' :: hds) ((c, none, ts) :: l)
  | as_ {x n : Str} {i : Nat} {c : Value} {ts : Addr → Value → Option Addr → TS} {b₀ : Stmt} {suite : List Stmt} {np pos' : Pos} {hds : List ExceptHandler} {l : List Cl} (hi : X.N[i]? = some n) (hln : X.env.kindOf n = some .local) (hc : Names X x c) (hsu : SuOk X b₀ suite ts) (r : HdsM X hds l) :
      HdsM X (.ExceptHandler (some (.Name x np)) (some n) (b₀ :: suite) pos' :: hds) ((c, some i, ts) :: l)
section
variable {X : Cx} {body : List Stmt} {h₀ : ExceptHandler} {hds : List ExceptHandler} {l : List Cl} {pos : Pos} {tb : WX → TS} {Wout : WX}
theorem ps_tries (hs : X.stack = X.env :: X.outer) (hf : X.env.frame = some X.env.locals) (hN : X.N.Nodup) (tk : Takes X Wout)
    (hb : ∀ (W : WX) (pn : List (Addr × Obj)) (xw : Value → Shared → Prop), Takes (X.tr pn xw) W → PassesOwn (model X.prog X.w) X.A X.env xw → PSs (X.tr pn xw) body (tb W))
    (hh : HdsM X (h₀ :: hds) l) : PS X (.Try body (h₀ :: hds) [] [] pos) (fun Ed τ L => tb (wMs X.K Wout Ed l) Ed τ L) := by
  refine ⟨fun po t0 τ L Ed J0 q0 => ?_⟩
  have okk := J0.ok
  have wfr : X.A.frames = some (X.env :: X.outer) := by rw [okk.frames, hs]
  refine wpAny_Try_except ?_
  refine wpAny_mono ((hb (wMs X.K Wout Ed l) (X.pn ++ po) (fun er t₁ => wpAny (model X.prog X.w) X.A (noteFrame er X.env) (fun _ t₂ => wpAny (model X.prog X.w) X.A (setFlight er none) (fun _ t₃ =>
    wpAny (model X.prog X.w) X.A (handleBy er X.env (h₀ :: hds)) (SP X po Ed) X.xe t₃) X.xe t₂) X.xe t₁) (fun uu tz got => ?_) PassesOwn.looking).run [] t0 τ L Ed (J0.toTry _) q0) (fun fo t1 spq => ?_) (fun er t1 ex => ex)
  · -- the catch
    obtain ⟨ad, Bw, ti, pz, τz, Lz, ty, dx, rfl, Jz, nw, ua, sk, nn, ow, eg, ww⟩ := got
    have J1 : Inv X po τz Lz ti := Jz.ofTry okk
    have skz : Sky Bw (X.env :: X.outer) ad (Zc ty dx) X.env.locals tz.heap := by rw [← hs]; exact sk
    show wpAny (model X.prog X.w) X.A (noteFrame (.ref ad) X.env) _ _ _
    refine Sky.land Zc.steady wfr hf skz fun k3 g3 u3 => ?_
    have Jc : Inv X po τz Lz { tz with heap := k3 } := J1.landed nw g3.1 (ua.trans u3) ow eg
    obtain ⟨oc, vc, ec, zc, dc⟩ := g3.there
    have noF : ∀ {q0 : Heap} {o : Obj} {vx : Array Value}, q0.FunFrames Bw (X.env :: X.outer) → q0.get? ad = some o → o.data = .fields vx → ad ∉ frs (X.env :: X.outer) := fun {q0 o vx} ff er dd mm => by
      obtain ⟨_, o', e', hnf⟩ := ff.mem mm
      rw [er] at e'; cases e'
      exact hnf _ dd
    have nof := noF g3.2.2.1 ec dc
    have n1 : ad ≠ X.env.locals := fun z => nof (List.mem_filterMap.mpr ⟨X.env, List.mem_cons_self, by rw [hf, z]⟩)
    have n2 : ad ∉ X.fs := fun mm => by
      obtain ⟨er, ex, qq⟩ := List.mem_filterMap.mp mm
      exact nof (List.mem_filterMap.mpr ⟨er, List.mem_cons_of_mem _ ex, qq⟩)
    have Sc := Jc.suite ec dc nn n1 n2
    have run1 : ∀ {cs' : List ExceptHandler} {ls' : List Cl}, HdsM X cs' ls' → wMs X.K Wout Ed ls' ty dx τz Lz →
        wpAny (model X.prog X.w) X.A (handleBy (.ref ad) X.env cs') (SP X po Ed) X.xe { tz with heap := k3 } := by
      intro cs' ls' kk
      induction kk with
      | nil =>
        intro ww
        refine wpAny_handleBy_nil ?_
        obtain ⟨m1, m2, m3, ox, vx, Tx, oTx, tsx, ex, zx, dxx, f1, rr1⟩ := id g3
        unfold PySem.passOn
        refine wpAny_bind (wpAny_field ex dxx f1 ?_)
        rw [if_neg (show ¬ ((Value.ref Tx == Value.none) = true) from by simp)]
        have out1 : wpAny (model X.prog X.w) X.A (setFlight (.ref ad) X.env.frame) (fun _ t4 => wpAny (model X.prog X.w) X.A (throw (.ref ad) : Sem Flow) (SP X po Ed) X.xe t4) X.xe { tz with heap := k3 } := by
          rw [hf]
          refine HandSPX.setFlight_upZ g3 fun k4 v4 u4 => wpAny_throw (tk _ _ ?_)
          exact ⟨ad, Bw, ti, po, τz, Lz, ty, dx, rfl, J1, nw, (ua.trans u3).trans u4, .inr (.inr (by rw [hs]; exact v4)), nn, ow, eg, ww⟩
        first
          | exact wpAny_bind (wpAny_pure (wpAny_bind out1))
          | exact wpAny_bind out1
      | @one x c ts b₀ suite np pos' hds2 l2 hc hsu rs ih =>
        intro ww
        obtain ⟨bv, em1, yes1, no1⟩ := ww
        refine wpAny_handleBy_cons (codeAny_handlers_test ?_) (by intro qq; cases qq)
        have lt1 : PySem.W.Looks (model X.prog X.w) k3 (typeOf (.ref ad)) ty := fun Ax Qz Ez t0 kx qq => wpAny_typeOf_ref (kx _ _ ec) (by rw [zc.1]; exact qq)
        have lm1 := PySem.W.exm_one (M := model X.prog X.w) (Jc.kIn) lt1 em1
        have tst : ∀ {Qz : Value → Shared → Prop} {Ez : Value → Shared → Prop}, Qz c { tz with heap := k3 } → wpAny (model X.prog X.w) (X.A.mark (some (.ref ad))) (eval (.Name x np) X.env) Qz Ez { tz with heap := k3 } := fun {Qz Ez} qq => by
          obtain ⟨gg, dbg, mm | ⟨mm, vv, nnn⟩⟩ := hc
          · exact ld_glob (X := X.suite ad ((ad, oc) :: (X.pn ++ po))) Sc gg mm qq dbg
          · exact ld_blt (X := X.suite ad ((ad, oc) :: (X.pn ++ po))) Sc gg mm vv qq nnn dbg
        refine tst (lm1.here ?_)
        cases bv with
        | true =>
          refine codeAny_handlers_suite ?_
          refine HandSPX.lands_againZ g3 fun k4 g4 u4 => ?_
          have Jd : Inv X po τz Lz { tz with heap := k4 } := J1.landed nw g4.1 ((ua.trans u3).trans u4) ow eg
          obtain ⟨od, vd, ed, zd, dd4⟩ := g4.there
          have Sd := Jd.suite ed dd4 nn n1 n2
          refine wpAny_mono ((hsu ad od ty dx (X.pn ++ po) zd ⟨_, dd4⟩).run [] _ _ Lz _ Sd (yes1 rfl ad nn)) (fun fo t6 spq => ?_) (fun _ _ z => False.elim z)
          cases fo with
          | next =>
            obtain ⟨τ6, L6, Se, qe⟩ := spq
            exact ⟨_, _, Se.unsuite okk, qe⟩
          | brk =>
            obtain ⟨τ6, L6, Se, qe⟩ := spq
            exact ⟨_, _, Se.unsuite okk, qe⟩
          | cont =>
            obtain ⟨τ6, L6, Se, qe⟩ := spq
            exact ⟨_, _, Se.unsuite okk, qe⟩
          | ret uu =>
            obtain ⟨ve, τ6, L6, Se, re6, qe⟩ := spq
            exact ⟨_, _, _, Se.unsuite okk, re6, qe⟩
        | false =>
          show wpAny _ X.A (handleBy (.ref ad) X.env hds2) _ _ _
          exact ih (no1 rfl)
      | @as_ x n i c ts b₀ suite np pos' hds2 l2 hi hln hc hsu rs ih =>
        intro ww
        obtain ⟨bv, em1, yes1, no1⟩ := ww
        refine wpAny_handleBy_cons (codeAny_handlers_test ?_) (by intro qq; cases qq)
        have lt1 : PySem.W.Looks (model X.prog X.w) k3 (typeOf (.ref ad)) ty := fun Ax Qz Ez t0 kx qq => wpAny_typeOf_ref (kx _ _ ec) (by rw [zc.1]; exact qq)
        have lm1 := PySem.W.exm_one (M := model X.prog X.w) (Jc.kIn) lt1 em1
        have tst : ∀ {Qz : Value → Shared → Prop} {Ez : Value → Shared → Prop}, Qz c { tz with heap := k3 } → wpAny (model X.prog X.w) (X.A.mark (some (.ref ad))) (eval (.Name x np) X.env) Qz Ez { tz with heap := k3 } := fun {Qz Ez} qq => by
          obtain ⟨gg, dbg, mm | ⟨mm, vv, nnn⟩⟩ := hc
          · exact ld_glob (X := X.suite ad ((ad, oc) :: (X.pn ++ po))) Sc gg mm qq dbg
          · exact ld_blt (X := X.suite ad ((ad, oc) :: (X.pn ++ po))) Sc gg mm vv qq nnn dbg
        refine tst (lm1.here ?_)
        cases bv with
        | true =>
          refine codeAny_handlers_suite_as ?_
          refine HandSPX.lands_againZ g3 fun k4 g4 u4 => ?_
          have Jd : Inv X po τz Lz { tz with heap := k4 } := J1.landed nw g4.1 ((ua.trans u3).trans u4) ow eg
          obtain ⟨od, vd, ed, zd, dd4⟩ := g4.there
          have Sd := Jd.suite ed dd4 nn n1 n2
          refine store_ok (X := X.suite ad ((ad, od) :: (X.pn ++ po))) (v := .ref ad) Sd hN hi (.inl hln) rfl (fun s5 S5 => ?_) (.inr hln)
          refine wpAny_mono ((hsu ad od ty dx (X.pn ++ po) zd ⟨_, dd4⟩).run [] s5 _ Lz _ S5 (yes1 rfl ad nn)) (fun fo t6 spq => ?_) (fun _ _ z => False.elim z)
          have end_ : ∀ {τ6 : L2.St} {L6 : Hp} {Qz : Shared → Prop}, Inv (X.suite ad ((ad, od) :: (X.pn ++ po))) [] τ6 L6 t6 → (∀ s7, Inv X po (τ6.set i none) L6 s7 → Qz s7) →
              wpAny (model X.prog X.w) X.A (do bindName X.env n .none; unbindBehindTheSuite X.env n pos') (fun _ s7 => Qz s7) X.xe t6 := fun {τ6 L6 Qz} Se hq => gone_ok (Se.unsuite okk) hN hi hln hq
          cases fo with
          | next =>
            obtain ⟨τ6, L6, Se, qe⟩ := spq
            exact end_ Se fun s7 J7 => ⟨_, _, J7, qe⟩
          | brk =>
            obtain ⟨τ6, L6, Se, qe⟩ := spq
            exact end_ Se fun s7 J7 => ⟨_, _, J7, qe⟩
          | cont =>
            obtain ⟨τ6, L6, Se, qe⟩ := spq
            exact end_ Se fun s7 J7 => ⟨_, _, J7, qe⟩
          | ret uu =>
            obtain ⟨ve, τ6, L6, Se, re6, qe⟩ := spq
            exact end_ Se fun s7 J7 => ⟨_, _, _, J7, re6, qe⟩
        | false =>
          show wpAny _ X.A (handleBy (.ref ad) X.env hds2) _ _ _
          exact ih (no1 rfl)
    exact run1 hh ww
  · cases fo with
    | next =>
      obtain ⟨τz, Lz, Jz, qq⟩ := spq
      exact wpAny_execs_nil ⟨τz, Lz, Jz.ofTry okk, qq⟩
    | brk =>
      obtain ⟨τz, Lz, Jz, qq⟩ := spq
      exact ⟨τz, Lz, Jz.ofTry okk, qq⟩
    | cont =>
      obtain ⟨τz, Lz, Jz, qq⟩ := spq
      exact ⟨τz, Lz, Jz.ofTry okk, qq⟩
    | ret uu =>
      obtain ⟨v, τz, Lz, Jz, rs, qq⟩ := spq
      exact ⟨v, τz, Lz, Jz.ofTry okk, rs, qq⟩
end
end Mn
namespace Mn
open PySem L2
def tryGo (sub : Nat → Nat → Option Bool) : List Hd → Xc → Ev → Hh → RS
  | [], y, e, h => .exc y e h
  | hd :: r, y, e, h => match sub y.cls hd.cls with
    | some true => if slotOk e hd.slot = true then match hd.suite y (clr e hd.slot) h with
        | .go f e2 h2 => .go f (clr e2 hd.slot) h2
        | _ => .stuck
      else .stuck
    | some false => tryGo sub r y e h
    | none => .stuck
def sTryM (sub : Nat → Nat → Option Bool) (b : SD) (hds : List Hd) : SD := fun e h => match b e h with
  | .exc y e1 h1 => tryGo sub hds y e1 h1
  | r => r
section
variable {X : Cx} {g : G} {cv : Nat → Value} {fn : Nat → Str} {W : WX} {pos : Pos} {f : SD}
def tsOf (X : Cx) (cv : Nat → Value) (fn : Nat → Str) (hd : Hd) : Addr → Value → Option Addr → TS := match hd.slot with
  | none => fun _ _ _ D σ H => ∃ y : Xc, PS_ (FX X cv fn none) (fun _ _ _ _ => False) (hd.suite y) D σ H
  | some i => fun a cls d D σ H => ∃ y : Xc, cls = cv y.cls ∧ (y.fs = [] → d = none) ∧ PS_ (FX X cv fn (some (i, a, y, d))) (fun _ _ _ _ => False) (hd.suite y) D σ H
def clOf (X : Cx) (cv : Nat → Value) (fn : Nat → Str) (hd : Hd) : Cl := (cv hd.cls, hd.slot, tsOf X cv fn hd)
inductive HdD (X : Cx) (cv : Nat → Value) (fn : Nat → Str) : List ExceptHandler → List Hd → Prop
  | nil : HdD X cv fn [] []
  | one {x : Str} {b₀ : Stmt} {suite : List Stmt} {np pos' : Pos} {hs : List ExceptHandler} {hds : List Hd} {c : Nat} {fs : Xc → SD} (hc : Names X x (cv c))
      (hsu : ∀ (a : Addr) (oe : Obj) (x : Xc) (pn : List (Addr × Obj)), PSs (X.suite a ((a, oe) :: pn)) (b₀ :: suite) (PS_ (FX X cv fn none) (fun _ _ _ _ => False) (fs x))) (r : HdD X cv fn hs hds) :
      HdD X cv fn (.ExceptHandler (some (.Name x np)) none (b₀ :: suite) pos' :: hs) (⟨c, none, fs⟩ :: hds)
  | as_ {x n : Str} {i : Nat} {b₀ : Stmt} {suite : List Stmt} {np pos' : Pos} {hs : List ExceptHandler} {hds : List Hd} {c : Nat} {fs : Xc → SD} (hi : X.N[i]? = some n) (hln : X.env.kindOf n = some .local) (hc : Names X x (cv c))
      (hsu : ∀ (a : Addr) (oe : Obj) (x : Xc) (d : Option Addr) (pn : List (Addr × Obj)), Zc (cv x.cls) d oe → (∃ vs, oe.data = .fields vs) → (x.fs = [] → d = none) → PSs (X.suite a ((a, oe) :: pn)) (b₀ :: suite) (PS_ (FX X cv fn (some (i, a, x, d))) (fun _ _ _ _ => False) (fs x))) (r : HdD X cv fn hs hds) :
      HdD X cv fn (.ExceptHandler (some (.Name x np)) (some n) (b₀ :: suite) pos' :: hs) (⟨c, some i, fs⟩ :: hds)
theorem HdD.ok {hs : List ExceptHandler} {hds : List Hd} (k : HdD X cv fn hs hds) : HdsM X hs (hds.map (clOf X cv fn)) := by
  induction k with
  | nil => exact .nil
  | one hc hsu r ih => exact .one hc (fun a oe cls d pn hz hfl => ⟨fun pins s σ H D I ⟨y, q⟩ => (hsu a oe y pn).run pins s σ H D I q⟩) ih
  | as_ hi hln hc hsu r ih => exact .as_ hi hln hc (fun a oe cls d pn hz hfl => ⟨fun pins s σ H D I ⟨y, e1, e2, q⟩ => by
      subst e1
      exact (hsu a oe y d pn hz hfl e2).run pins s σ H D I q⟩) ih
theorem tries_w {sub : Nat → Nat → Option Bool} (hsub : ∀ c1 c2 b, sub c1 c2 = some b → PySem.W.exmOne X.K (cv c1) (cv c2) = some b) {D : Ends} {m : Nat → Addr} {h : Hh} {H : Hp} {y : Xc} {e1 : Ev} {h1 : Hh} : ∀ {hds : List Hd},
    PSo (FX X cv fn none) W D m h H (tryGo sub hds y e1 h1) → ∀ m1 H1 σ1 cls dd, Ge m h H m1 h1 H1 → RH (FX X cv fn none) m1 h1 H1 → RE (FX X cv fn none) m1 h1.length H1 e1 σ1 → RX (FX X cv fn none) m1 h1.length H1 y cls dd →
      wMs X.K W D (hds.map (clOf X cv fn)) cls dd σ1 H1
  | [], p => fun m1 H1 σ1 cls dd g1 rh1 re1 rx => p m1 H1 σ1 cls dd g1 rh1 re1 rx
  | hd :: hds, p => fun m1 H1 σ1 cls dd g1 rh1 re1 rx => by
    unfold tryGo at p
    cases qs : sub y.cls hd.cls with
    | none => rw [qs] at p; exact p.elim
    | some k =>
      rw [qs] at p
      obtain ⟨ec, rx'⟩ := rx
      refine ⟨k, by rw [ec]; exact hsub _ _ _ qs, fun ek ad had => ?_, fun ek => ?_⟩
      · subst ek
        simp only at p
        by_cases hok : slotOk e1 hd.slot = true
        case neg => rw [if_neg hok] at p; exact p.elim
        rw [if_pos hok] at p
        obtain ⟨c, sl, fs⟩ := hd
        have p1 := PSo.base p g1
        cases sl with
        | none =>
          refine ⟨y, m1, e1, h1, rh1, re1, ?_⟩
          show PSo (FX X cv fn none) (fun _ _ _ _ => False) D m1 h1 H1 (fs y e1 h1)
          cases qg : fs y e1 h1 with
          | stuck => simp only [clr, qg] at p1; exact p1.elim
          | exc x e2 h2 => simp only [clr, qg] at p1; exact p1.elim
          | go fl e2 h2 => simp only [clr, qg] at p1; exact p1.flow
        | some i =>
          have hi' : i < σ1.length := by
            rw [← re1.len]
            exact of_decide_eq_true hok
          refine ⟨y, ec, rx'.1, m1, e1.set i none, h1, rh1.ex, ⟨?_, fun j d hj => ?_, fun j b y' d' hj => ?_⟩, ?_⟩
          · show (e1.set i none).length = (σ1.set i _).length
            rw [List.length_set, List.length_set]; exact re1.len
          · show ∃ v, (σ1.set i _)[j]? = some (some v) ∧ _
            by_cases hij : i = j
            · subst hij
              by_cases hl : i < e1.length
              · rw [List.getElem?_set_self hl] at hj; cases hj
              · rw [List.getElem?_eq_none (by rw [List.length_set]; omega)] at hj; cases hj
            · rw [List.getElem?_set_ne hij] at hj ⊢
              exact re1.at_ j d hj
          · cases hj
            exact ⟨List.getElem?_set_self hi', rx'⟩
          · show PSo (FX X cv fn (some (i, ad, y, dd))) (fun _ _ _ _ => False) (offE (some i) D) m1 h1 H1 (fs y (e1.set i none) h1)
            cases qg : fs y (e1.set i none) h1 with
            | stuck => simp only [clr, qg] at p1; exact p1.elim
            | exc x e2 h2 => simp only [clr, qg] at p1; exact p1.elim
            | go fl e2 h2 =>
              simp only [clr, qg] at p1
              have back : ∀ {m' : Nat → Addr} {N : Nat} {H' : Hp} {σ' : L2.St}, RE (FX X cv fn (some (i, ad, y, dd))) m' N H' e2 σ' → RE (FX X cv fn none) m' N H' (e2.set i none) (σ'.set i none) := fun {m' N H' σ'} r =>
                RE.drop1 (T := FX X cv fn none) ⟨r.len, r.at_, fun _ _ _ _ z => by cases z⟩ i (fun _ _ z => by cases z) none
              cases fl with
              | nx => exact fun m2 H2 σ2 g2 rh2 re2 => p1 m2 H2 _ g2 rh2.ex (back re2)
              | bk => exact fun m2 H2 σ2 g2 rh2 re2 => p1 m2 H2 _ g2 rh2.ex (back re2)
              | ct => exact fun m2 H2 σ2 g2 rh2 re2 => p1 m2 H2 _ g2 rh2.ex (back re2)
              | rt d => exact fun m2 H2 v2 g2 rh2 re2 => p1 m2 H2 _ g2 rh2.ex re2
      · subst ek
        exact tries_w hsub p m1 H1 σ1 cls dd g1 rh1 re1 ⟨ec, rx'⟩
theorem s_tries {body : List Stmt} {h₀ : ExceptHandler} {hs : List ExceptHandler} {hds : List Hd} {sub : Nat → Nat → Option Bool} (hst : X.stack = X.env :: X.outer) (hf : X.env.frame = some X.env.locals) (hN : X.N.Nodup) (tk : Takes X W)
    (hsub : ∀ c1 c2 b, sub c1 c2 = some b → PySem.W.exmOne X.K (cv c1) (cv c2) = some b)
    (hb : ∀ (W : WX) (pn : List (Addr × Obj)) (xe : Value → Shared → Prop), Takes (X.tr pn xe) W → PassesOwn (model X.prog X.w) X.A X.env xe → PSs (X.tr pn xe) body (PS_ (FX X cv fn none) W f))
    (hh : HdD X cv fn (h₀ :: hs) hds) : PS X (.Try body (h₀ :: hs) [] [] pos) (PS_ (FX X cv fn none) W (sTryM sub f hds)) := by
  refine psImp (ps_tries hst hf hN tk hb hh.ok) fun D σ H q => ?_
  obtain ⟨m, e, h, rh, re, p⟩ := q
  refine ⟨m, e, h, rh, re, ?_⟩
  unfold sTryM at p
  cases qf : f e h with
  | stuck => rw [qf] at p; exact p
  | go fl e1 h1 => rw [qf] at p; exact p.flow
  | exc y e1 h1 =>
    rw [qf] at p
    intro m1 H1 σ1 cls dd g1 rh1 re1 rx
    exact tries_w hsub p m1 H1 σ1 cls dd g1 rh1 re1 rx
end
end Mn
namespace Mn
open PySem L2
def cstOf : Expr → Option D
  | .Constant .none _ _ => some .non
  | .Constant (.bool b) _ _ => some (.bl b)
  | .Constant (.int i) _ _ => some (.int i)
  | .Constant (.str s) _ _ => some (.str s)
  | _ => none
def cstV : D → V
  | .bl b => .bl b
  | .int i => .int i
  | .str s => .str s
  | _ => .non
def cstsOf : List Expr → Option (List D)
  | [] => some []
  | e :: es => match cstOf e, cstsOf es with
    | some d, some ds => some (d :: ds)
    | _, _ => none
def dspOf : List (Option Expr) → List Expr → Option (List (Str × List D))
  | [], [] => some []
  | some (.Constant (.str s) _ _) :: ks, .List es _ :: vs => match cstsOf es, dspOf ks vs with
    | some ds, some r => some ((s, ds) :: r)
    | _, _ => none
  | _, _ => none
def dDsp (kvs : List (Str × List D)) (i : Nat) (k : Int) : ED := fun e h => match e[i]? with
  | some (some (.tup ds)) => match L2.atI ds k with
    | some (.str s) => match kvs.lookup s with
      | some cs => .ok (.ref h.length) (h ++ [.lst cs])
      | none => .stuck
    | _ => .stuck
  | _ => .stuck
def dspOk (kvs : List (Str × List D)) : Bool := decide ((kvs.map (·.1)).Nodup) && !kvs.isEmpty && decide (kvs.length ≤ 15) && kvs.all fun kv => decide (kv.2.length ≤ szl)
section
variable {X : Cx} {cv : Nat → Value} {fn : Nat → Str} {xs : Xs} {W : WX} {pos : Pos}
theorem cst_rd {e : Expr} {d : D} (h : cstOf e = some d) {K : PySem.W.Frag} {m : Nat → Addr} {N : Nat} {H : Hp} : RD K m N H d (cstV d) := by
  unfold cstOf at h
  split at h <;> first
    | (cases h; done)
    | (cases h; first | exact .non | exact .bl _ | exact .int _ | exact .str _)
theorem cst_pe {e : Expr} {d : D} (h : cstOf e = some d) : PE X e (tC (cstV d)) := by
  unfold cstOf at h
  split at h <;> first
    | (cases h; done)
    | (cases h; first | exact pe_non | exact pe_bl | exact pe_int | exact pe_str)
def tVs (vs : List V) : TA := fun _ H Q => Q vs H
theorem csts_pa : ∀ {es : List Expr} {ds : List D}, cstsOf es = some ds → PA X es (tVs (ds.map cstV))
  | [], _, h => by
    cases h
    exact paImp pa_nil fun σ H Q q => q
  | e :: es, _, h => by
    unfold cstsOf at h
    split at h
    · rename_i d ds h1 h2
      cases h
      refine paImp (pa_cons (cst_pe h1) (csts_pa h2) ?_) fun σ H Q q => q
      unfold cstOf at h1
      split at h1 <;> first | rfl | cases h1
    · cases h
theorem csts_rds {K : PySem.W.Frag} {m : Nat → Addr} {N : Nat} {H : Hp} : ∀ {es : List Expr} {ds : List D}, cstsOf es = some ds → RDs K m N H ds (ds.map cstV)
  | [], _, h => by
    cases h
    exact .nil
  | e :: es, _, h => by
    unfold cstsOf at h
    split at h
    · rename_i d ds h1 h2
      cases h
      exact .cons (cst_rd h1) (csts_rds h2)
    · cases h
def dTr : List (Str × List D) → List (TE × TE)
  | [] => []
  | (s, ds) :: r => (tC (.str s), tLst (tVs (ds.map cstV))) :: dTr r
theorem dsp_pps : ∀ {ks : List (Option Expr)} {vs : List Expr} {kvs : List (Str × List D)}, dspOf ks vs = some kvs → PPs X pos ks vs (dTr kvs) ∧ ks.all (·.isSome) = true ∧ ks.length = vs.length ∧ kvs.length = ks.length ∧ ∀ kv ∈ kvs, ∀ (K : PySem.W.Frag) m N H, RDs K m N H kv.2 (kv.2.map cstV)
  | ks, vs, kvs, h => by
    unfold dspOf at h
    split at h
    · cases h
      exact ⟨pps_nil, rfl, rfl, rfl, fun _ w => by cases w⟩
    · rename_i s u p ks es q vs
      split at h
      · rename_i ds r h1 h2
        cases h
        obtain ⟨a, b, c, d, e⟩ := dsp_pps h2
        refine ⟨pps_cons pe_str (pe_lst (csts_pa h1)) a, ?_, congrArg Nat.succ c, congrArg Nat.succ d, fun kv w K m N H => ?_⟩
        · rw [List.all_cons, b]; rfl
        · rcases List.mem_cons.mp w with w | w
          · rw [w]; exact csts_rds h1
          · exact e kv w K m N H
      · cases h
    · cases h
def DFrm (H H2 : Hp) : Prop := ∀ a, H a ≠ none → H2 a = H a
theorem RH.frame {T : Fx} {m : Nat → Addr} {h : Hh} {H H' : Hp} (r : RH T m h H) (fr : DFrm H H') : Ge m h H m h H' ∧ RH T m h H' := by
  have tk : TK H H' := ⟨fun a xs e => (fr a (by rw [e]; exact fun z => by cases z)).trans e, fun a o xs e => (fr a (by rw [e]; exact fun z => by cases z)).trans e, fun a o xs e => (fr a (by rw [e]; exact fun z => by cases z)).trans e, fun a xs e => (fr a (by rw [e]; exact fun z => by cases z)).trans e, fun a lo hi e => (fr a (by rw [e]; exact fun z => by cases z)).trans e⟩
  have g : Ge m h H m h H' := ⟨fun _ _ => rfl, Nat.le_refl _, tk⟩
  refine ⟨g, ⟨fun n o hn => (r.obj n o hn).mono g fun f => ?_, r.inj⟩⟩
  obtain ⟨w, hw, _⟩ := (r.obj n o hn).there f
  exact fr _ (by rw [hw]; exact fun z => by cases z)
theorem DFrm.upd {H : Hp} {p : Addr} {u : HO} (h : H p = none) : DFrm H (L2.upd H p u) := fun a ha => upd_ne fun z => ha (by rw [z]; exact h)
theorem DFrm.trans {H H1 H2 : Hp} (a : DFrm H H1) (b : DFrm H1 H2) : DFrm H H2 := fun x hx => (b x (by rw [a x hx]; exact hx)).trans (a x hx)
inductive DLay (H H2 : Hp) : List (Str × List D) → List (Key × V) → Prop
  | nil : DLay H H2 [] []
  | cons {s : Str} {ds : List D} {a : Addr} {r : List (Str × List D)} {l : List (Key × V)} : H a = none → H2 a = some (.lst (ds.map cstV)) → DLay H H2 r l → DLay H H2 ((s, ds) :: r) ((.inr s, .ref a) :: l)
theorem DLay.base {H H1 H2 : Hp} (f : DFrm H H1) {r : List (Str × List D)} {l : List (Key × V)} (h : DLay H1 H2 r l) : DLay H H2 r l := by
  induction h with
  | nil => exact .nil
  | @cons s ds a r l h1 h2 _ ih =>
    refine .cons ?_ h2 ih
    refine Classical.byContradiction fun z => z ?_
    rw [← f a z]; exact h1
theorem DLay.len {H H2 : Hp} {r : List (Str × List D)} {l : List (Key × V)} (h : DLay H H2 r l) : l.length = r.length ∧ l.map (·.1) = (r.map (·.1)).map Sum.inr := by
  induction h with
  | nil => exact ⟨rfl, rfl⟩
  | cons _ _ _ ih => exact ⟨congrArg Nat.succ ih.1, congrArg (_ :: ·) ih.2⟩
theorem DLay.look {H H2 : Hp} {r : List (Str × List D)} {l : List (Key × V)} {s : Str} {cs : List D} (h : DLay H H2 r l) (e : r.lookup s = some cs) : ∃ a, valV l (Sum.inr s) = some (.ref a) ∧ H a = none ∧ H2 a = some (.lst (cs.map cstV)) := by
  induction h with
  | nil => cases e
  | @cons s' ds a r l h1 h2 _ ih =>
    rw [List.lookup_cons] at e
    by_cases z : s = s'
    · subst z
      rw [beq_self_eq_true] at e
      cases e
      exact ⟨a, valV_pos rfl, h1, h2⟩
    · have : (s == s') = false := by simpa using z
      rw [this] at e
      obtain ⟨b, i1, i2, i3⟩ := ih e
      exact ⟨b, (valV_neg fun w => z (Sum.inr.inj w).symm).trans i1, i2, i3⟩
theorem dsp_look_mem {s : Str} {cs : List D} : ∀ {r : List (Str × List D)}, r.lookup s = some cs → ∃ kv ∈ r, kv.2 = cs
  | [], e => by cases e
  | (s', ds) :: r, e => by
    rw [List.lookup_cons] at e
    cases z : s == s' with
    | true => rw [z] at e; cases e; exact ⟨_, List.mem_cons_self .., rfl⟩
    | false =>
      rw [z] at e
      obtain ⟨kv, h1, h2⟩ := dsp_look_mem e
      exact ⟨kv, List.mem_cons_of_mem _ h1, h2⟩
theorem dmerge_val (k : Key) : ∀ {more acc : List (Key × V)}, (more.map (·.1)).Nodup → valV (mergeK acc more) k = (match valV more k with
    | some v => some v
    | none => valV acc k)
  | [], _, _ => rfl
  | (k1, v1) :: r, acc, h => by
    rw [List.map_cons, List.nodup_cons] at h
    show valV (mergeK (putK acc k1 v1) r) k = _
    rw [dmerge_val k h.2]
    by_cases z : k1 = k
    · subst z
      rw [valV_pos (p := (k1, v1)) rfl]
      have hn : valV r k1 = none := by
        cases q : valV r k1 with
        | none => rfl
        | some v =>
          exfalso
          have := valV_any k1 r
          rw [q] at this
          obtain ⟨kv, h1, h2⟩ := List.any_eq_true.mp (show (r.any fun kv => decide (kv.1 = k1)) = true from this)
          exact h.1 (List.mem_map.mpr ⟨kv, h1, of_decide_eq_true h2⟩)
      rw [hn]
      show valV (putK acc k1 v1) k1 = _
      rw [valV_put, if_pos rfl]
    · rw [valV_neg (p := (k1, v1)) z]
      cases valV r k with
      | some v => rfl
      | none =>
        show valV (putK acc k1 v1) k = _
        rw [valV_put, if_neg fun w => z w.symm]
theorem dnodup_inr : ∀ {l : List Str}, l.Nodup → (l.map (Sum.inr : Str → Key)).Nodup
  | [], _ => List.nodup_nil
  | x :: l, h => by
    rw [List.nodup_cons] at h
    rw [List.map_cons, List.nodup_cons]
    refine ⟨fun z => ?_, dnodup_inr h.2⟩
    obtain ⟨y, h1, h2⟩ := List.mem_map.mp z
    rw [← Sum.inr.inj h2] at h
    exact h.1 h1
theorem dsp_pairs : ∀ (kvs : List (Str × List D)) (σ : L2.St) (H : Hp) (Q : List (V × V) → Hp → Prop), (∀ kv ∈ kvs, kv.2.length ≤ szl) → (∀ (l : List (Key × V)) (H2 : Hp), DFrm H H2 → DLay H H2 kvs l → Q (l.map fun kv => (kV kv.1, kv.2)) H2) → tPairs (dTr kvs) σ H Q
  | [], σ, H, Q, _, q => q [] H (fun _ _ => rfl) .nil
  | (s, ds) :: r, σ, H, Q, hz, q => by
    show (ds.map cstV).length ≤ sizeLine ∧ ∀ p, H p = none → tPairs (dTr r) σ (upd H p (.lst (ds.map cstV))) fun ps H3 => Q ((.str s, .ref p) :: ps) H3
    refine ⟨?_, fun p hp => ?_⟩
    · rw [List.length_map, sizeLine_eq]
      exact hz _ (List.mem_cons_self ..)
    · refine dsp_pairs r σ _ _ (fun kv h => hz kv (List.mem_cons_of_mem _ h)) fun l H2 f ly => ?_
      have f0 : DFrm H (upd H p (.lst (ds.map cstV))) := DFrm.upd hp
      refine q ((.inr s, .ref p) :: l) H2 (f0.trans f) (.cons hp ?_ (ly.base f0))
      rw [f p (by rw [upd_same]; exact fun z => by cases z)]
      exact upd_same
theorem s_dsp {ks : List (Option Expr)} {vals : List Expr} {kvs : List (Str × List D)} {i : Nat} {k : Int} {x : Str} {dp p1 p3 : Pos} {e2 : Expr} (hu : X.A.units + 65 < cLine) (hd : dspOf ks vals = some kvs) (ok : dspOk kvs = true) (he2 : PE X e2 (tC (.int k))) (hpl : PlainIx e2)
    (hN : X.N[i]? = some x) (hv : Vis X.env.scope x) (hdb : (x == ("__debug__" : Str)) = false) (hcd : (x == ("__classdict__" : Str)) = false) :
    PE X (.Subscript (.Dict ks vals dp) (.Subscript (.Name x p1) e2 p3) pos) (PE_ (FX X cv fn xs) W (dDsp kvs i k)) := by
  obtain ⟨h1, h2, h3, h4, h5⟩ := dsp_pps (X := X) (pos := dp) hd
  unfold dspOk at ok
  rw [Bool.and_eq_true, Bool.and_eq_true, Bool.and_eq_true] at ok
  obtain ⟨⟨⟨o1, o2⟩, o3⟩, o4⟩ := ok
  have o1 := of_decide_eq_true o1
  have o3 := of_decide_eq_true o3
  rw [List.all_eq_true] at o4
  have hne : ks ≠ [] := fun z => by
    rw [z] at h4
    cases kvs with
    | nil => cases o2
    | cons => cases h4
  refine peImp (pe_dget (by omega) (pe_disp h1 h2 h3 hne (by omega)) (pe_ix ix_tup (pe_var hN hv hdb hcd) he2 hpl) (fun _ _ => rfl)) fun σ H Q q => ?_
  obtain ⟨m, e, h, rh, re, p⟩ := q
  unfold dDsp at p
  split at p
  · rename_i ds ed
    split at p
    · rename_i s es
      split at p
      · rename_i cs ec
        obtain ⟨v, g1, g2⟩ := re.at_ i _ ed
        cases g2 with
        | tup sq r =>
          rename_i a vs
          obtain ⟨w, e1, rw'⟩ := atI_rd r es
          cases rw'
          show ∀ pp, H pp = none → tPairs (dTr kvs) σ (upd H pp (.dK [])) fun ps H2 => H2 pp = some (.dK []) ∧ _
          intro pp hpp
          refine dsp_pairs kvs σ _ _ (fun kv hk => of_decide_eq_true (o4 kv hk)) fun l H2 fr ly => ⟨?_, l, rfl, ?_, ?_⟩
          · rw [fr pp (by rw [upd_same]; exact fun z => by cases z)]
            exact upd_same
          · rw [ly.len.1]; exact o3
          · obtain ⟨b, b1, b2, b3⟩ := ly.look ec
            obtain ⟨kv, hk, ek⟩ := dsp_look_mem ec
            have f0 : DFrm H (upd H pp (.dK [])) := DFrm.upd hpp
            have hbp : b ≠ pp := fun z => by rw [z, upd_same] at b2; cases b2
            have hb0 : H b = none := by rw [upd_ne hbp] at b2; exact b2
            have rr : RDs X.K m h.length H cs (cs.map cstV) := by rw [← ek]; exact h5 kv hk X.K m _ H
            obtain ⟨m', g, rh', rd⟩ := rh.newL hb0 rr
            have f1 : DFrm (upd H b (.lst (cs.map cstV))) (upd H2 pp (.dK (mergeK [] l))) := fun y hy => by
              by_cases z : y = b
              · rw [z, upd_ne hbp, upd_same, b3]
              · rw [upd_ne z] at hy ⊢
                have hyp : y ≠ pp := fun w => hy (by rw [w]; exact hpp)
                rw [upd_ne hyp, fr y (by rw [upd_ne hyp]; exact hy), upd_ne hyp]
            obtain ⟨g', rh''⟩ := rh'.frame f1
            have sq' := (g.trans g').tk.seq sq
            refine ⟨_, g1, ?_⟩
            refine ⟨a, vs, k, .str s, rfl, rfl, sq', e1, pp, .ref b, rfl, .inl ⟨_, .inr s, .inl upd_same, rfl, ?_⟩, p m' _ _ (g.trans g') rh'' (g'.rd rd)⟩
            rw [dmerge_val, b1]
            rw [ly.len.2]
            exact dnodup_inr o1
      · exact p.elim
    · exact p.elim
  · exact p.elim
end
end Mn
namespace Mn
open PySem L2
def dPr (c : Nat) (f : FD) (o : ED) : ED := fun e h => (o e h).bind fun x h1 => match insAt h1 x with
  | some (c', _) => if c' = c then noX (f [x] h1) else .stuck
  | none => .stuck
def mN (n : Nat) : Nat := if n = 0 then 1 else n
theorem mN_of {n : Nat} (h : 1 ≤ n) : mN n = n := if_neg (by omega)
def MethP (K : PySem.W.Frag) (C : Addr) (m : Str) (n : Nat) (g : Addr) : Prop := (n ≠ 0 ∧ Meth K C m g) ∨ (n = 0 ∧ Cls K C ∧ ∃ p, PropOf K C m p g)
theorem MethP.meth {K : PySem.W.Frag} {C : Addr} {m : Str} {n : Nat} {g : Addr} (h : MethP K C m n g) (hn : 1 ≤ n) : Meth K C m g := by
  rcases h with ⟨_, h⟩ | ⟨z, _⟩
  · exact h
  · omega
theorem MethP.prop {K : PySem.W.Frag} {C : Addr} {m : Str} {n : Nat} {g : Addr} (h : MethP K C m n g) (hn : n = 0) : Cls K C ∧ ∃ p, PropOf K C m p g := by
  rcases h with ⟨z, _⟩ | ⟨_, h⟩
  · exact absurd hn z
  · exact h
section
variable {X : Cx} {cv : Nat → Value} {fn : Nat → Str} {W : WX} {pos : Pos}
theorem s_prop {oe : Expr} {mm : Str} {c k : Nat} {C g p : Addr} {fd : FuncData} {ps : List Str} {gT : FD} {fo : ED} (ho : PE X oe (PE_ (FX X cv fn none) W fo)) (hC : cv c = .ref C) (cl : Cls X.K C) (hp : PropOf X.K C mm p g)
    (F : FnOk X.prog X.w X.K X.mg X.base (L2.CX X.prog X.w) k g fd ps (spT (FX X cv fn none) 1 gT)) (hr : Room (k + 1) X.A) (hb : Binds X.K fd ps [])
    (hab : attributeBase oe mm X.env (eval oe X.env) = eval oe X.env) : PE X (.Attribute oe mm pos) (PE_ (FX X cv fn none) W (dPr c gT fo)) := by
  refine peImp (pe_prop (E := fun _ _ _ => False) (dvs := []) ho cl hp F hr hb .nil (fun _ _ _ _ _ _ _ z => ?_) hab) fun σ H Q q => ?_
  · obtain ⟨_, _, _, _, _, _, _, _, _, _, _, _, z⟩ := z
    exact z.elim
  · obtain ⟨m, e, h, rh, re, p⟩ := q
    refine ⟨m, e, h, rh, re, p.bind fun x h1 m1 H1 xv g1 rh1 rx p1 => ?_⟩
    split at p1
    · rename_i c' fs e0
      obtain ⟨n, rfl, hn⟩ := insAt_of e0
      split at p1
      · rename_i hc
        subst hc
        obtain ⟨C', dx, vs, hC', hw, pf, cl', z⟩ := rh1.obj n _ hn
        have eC : C' = C := by have z := hC.symm.trans hC'; cases z; rfl
        subst eC
        have rx0 := rx
        cases rx
        refine ⟨_, dx, vs, rfl, hw, rfl, m1, h1, [.ref n], rh1, .cons rx0 .nil, ?_⟩
        cases q2 : gT [.ref n] h1 with
        | ok a h' => rw [q2] at p1; exact p1
        | exc y h' => rw [q2] at p1; exact p1.elim
        | stuck => rw [q2] at p1; exact p1.elim
      · exact p1.elim
    · exact p1.elim
end
end Mn
namespace Mn
open PySem L2
inductive GV where
  | blt | bf (id : String) | val (d : D) | fn (id n : Nat) (dv : List D) | cls (id : Nat) | bcls (id : Nat)
  /-- a class of instances: its number, its __init__, all parameters, the last parameters' defaults, the numbers of written arguments, calls with keywords -/
  | ucls (c id n : Nat) (dv : List D) (ps : List Nat) (ks : List (Nat × List Str × List KP × List D))
  /-- an exception with attributes -/
  | xcls (c : Nat) (fs : List Nat)
inductive Md where
  | body | blk | suite (x : Xc) (n : Option (Str × Nat))
structure G where
  N : List Str
  sc : Scope
  gl : List (Str × GV)
  fl : List (Str × Nat)
  ms : List (Str × List (Nat × Nat × Nat × List D))
  T : Nat → FD
  sub : Nat → Nat → Option Bool
  isi : Nat → Nat → Option Bool
  xa : Nat → List Nat
  fuel : Nat
  md : Md
def dAndT (a b : ED) : ED := fun e h => (a e h).bind fun x h1 => match truth x h1 with
  | some k => if k then b e h1 else .ok x h1
  | none => .stuck
def dOrT (a b : ED) : ED := fun e h => (a e h).bind fun x h1 => match truth x h1 with
  | some k => if k then .ok x h1 else b e h1
  | none => .stuck
def dNotT (a : ED) : ED := fun e h => (a e h).bind fun x h1 => match truth x h1 with
  | some k => .ok (.bl (!k)) h1
  | none => .stuck
def iop : Operator → D → D → Hh → R D
  | .Add, .int i, .int j, h => .ok (.int (i + j)) h
  | .Sub, .int i, .int j, h => .ok (.int (i - j)) h
  | .Mult, .int i, .int j, h => if cMul i j then .ok (.int (i * j)) h else .stuck
  | .Add, .str a, .str b, h => if a.length + b.length ≤ szl then .ok (.str (a ++ b)) h else .stuck
  | _, _, _, _ => .stuck
structure DD where
  E : G → Expr → ED
  T : G → Expr → TD
  S : G → Stmt → SD
def isStar : Expr → Bool
  | .Starred .. => true
  | _ => false
def isSlice : Expr → Bool
  | .Slice .. => true
  | _ => false
def isSet : Expr → Bool
  | .Set .. => true
  | _ => false
def isLc : Expr → Bool
  | .ListComp .. | .SetComp .. | .DictComp .. => true
  | _ => false
def okNm (x : Str) : Bool := !(x == ("__debug__" : Str)) && !(x == ("__classdict__" : Str)) && !(x == ("__name__" : Str))
def G.calm (g : G) : Bool := match g.md with
  | .suite _ _ => false
  | _ => true
def G.ix (g : G) (x : Str) : Option Nat := g.N.findIdx? (· == x)
def G.own (g : G) (x : Str) : Bool := match g.sc.names.lookup x with
  | some .local => true
  | some .cell => true
  | some .free => true
  | _ => false
def G.glob (g : G) (x : Str) : Option GV := match g.sc.names.lookup x with
  | some .globalImplicit => if okNm x = true then g.gl.lookup x else none
  | _ => none
def G.sto (g : G) (x : Str) : Option Nat := if g.sc.names.lookup x == some .local || g.sc.names.lookup x == some .cell then match g.ix x with
    | some i => match g.md with
      | .suite _ (some (_, j)) => if i = j then none else some i
      | _ => some i
    | none => none
  else none
def denA (d : DD) (g : G) : List Expr → AD
  | [] => aN
  | e :: es => aC (d.E g e) (denA d g es)
def tyOf (x : Str) : Option Ty := if x == ("int" : Str) then some .int else if x == ("bool" : Str) then some .bool else if x == ("str" : Str) then some .str else if x == ("tuple" : Str) then some .tuple else if x == ("list" : Str) then some .list else none
def G.exc (g : G) : Expr → Option Xc
  | .Name x _ => match g.md with
    | .suite y (some (n, _)) => if x == n then some y else none
    | _ => none
  | _ => none
def G.cid (g : G) : Expr → Option Nat
  | .Name x _ => match g.glob x with
    | some (.cls c) => some c
    | some (.bcls c) => some c
    | some (.xcls c _) => some c
    | _ => none
  | _ => none
def G.fid (g : G) (x : Str) : Option Nat := match g.fl.lookup x with
  | some i => if (fnm i == x) = true ∧ i < fnames.length then some i else none
  | none => none
def dXf (xa : Nat → List Nat) (y : Xc) (i : Nat) : ED := if (xa y.cls).elem i = true then match y.fs.lookup i with
    | some d => dC d
    | none => dK
  else dK
def isX (t : Nat → Nat → Option Bool) (y : Xc) (c : Nat) : ED := match t y.cls c with
  | some k => dC (.bl k)
  | none => dK
def denIs (d : DD) (g : G) (a b : Expr) : ED := match g.exc a with
  | some y => match g.cid b with
    | some c => isX g.isi y c
    | none => dK
  | none => match b with
    | .Name t _ => match g.glob t, tyOf t with
      | some .blt, some ty => dIs ty (d.E g a)
      | _, _ => dK
    | _ => dK
def denL (d : DD) (g : G) (a : Expr) : ED := match a with
  | .Call (.Name y _) [b] [] _ => match g.glob y with
    | some .blt => if isStar b = true then dCall fList (denA d g [a]) []
      else if y == ("reversed" : Str) then (if g.calm = true then dCall fLRev (denA d g [b]) [] else dK)
      else if y == ("range" : Str) then (if g.calm = true then dCall fLRng (denA d g [b]) [] else dK)
      else dCall fList (denA d g [a]) []
    | _ => dCall fList (denA d g [a]) []
  | .Call (.Name y _) [b, c] [] _ => match g.glob y with
    | some .blt => if isStar b = true ∨ isStar c = true then dCall fList (denA d g [a]) []
      else if y == ("range" : Str) then (if g.calm = true then dCall fLRng (denA d g [b, c]) [] else dK)
      else dCall fList (denA d g [a]) []
    | _ => dCall fList (denA d g [a]) []
  | _ => dCall fList (denA d g [a]) []
def denLen (d : DD) (g : G) (a : Expr) : ED := match a with
  | .Call (.Name y _) [b] [] _ => match g.glob y with
    | some .blt => if isStar b = true then dCall fLen (denA d g [a]) []
      else if y == ("set" : Str) then (if g.calm = true then dCall fLenS (denA d g [b]) [] else dK)
      else dCall fLen (denA d g [a]) []
    | _ => dCall fLen (denA d g [a]) []
  | _ => dCall fLen (denA d g [a]) []
def denB (d : DD) (g : G) (x : Str) (args : List Expr) : ED := match args with
  | [a] => if x == ("len" : Str) then denLen d g a
    else if x == ("abs" : Str) then dCall fAbs (denA d g args) []
    else if x == ("int" : Str) then dCall fInt (denA d g args) []
    else if x == ("str" : Str) then (if g.calm = true then dCall fStrL (denA d g args) [] else dCall fStr (denA d g args) [])
    else if x == ("list" : Str) then denL d g a
    else if x == ("tuple" : Str) then dCall fTuple (denA d g args) []
    else if x == ("range" : Str) then dCall fRng1 (denA d g args) []
    else if g.calm = true then
      if x == ("sum" : Str) then dCall fSum (denA d g args) []
      else if x == ("all" : Str) then dCall fAll (denA d g args) []
      else if x == ("any" : Str) then dCall fAny (denA d g args) []
      else if x == ("sorted" : Str) then dCall fSorted (denA d g args) []
      else dK
    else dK
  | [a, b] => if x == ("isinstance" : Str) then denIs d g a b
    else if g.calm = true then
      if x == ("max" : Str) then dCall fMax (denA d g args) []
      else if x == ("min" : Str) then dCall fMin (denA d g args) []
      else dK
    else dK
  | _ => dK
def denC (d : DD) (g : G) (x : Str) (args : List Expr) : ED := if args.any isStar = true then dK else match g.glob x with
  | some (.fn id n dv) => if g.calm = true ∧ args.length ≤ n ∧ n - args.length ≤ dv.length then dCall (g.T id) (denA d g args) (dv.drop (dv.length - (n - args.length))) else dK
  | some (.bf f) => if f = "math.gcd" ∧ args ≠ [] then dCall fGcd (denA d g args) [] else dK
  | some .blt => denB d g x args
  | some (.ucls c id n dv ps _) => if g.calm = true ∧ ps.elem args.length = true then dMk c (g.T id) (denA d g args) (dv.drop (dv.length - (n - (args.length + 1)))) else dK
  | _ => dK
def okBase : Expr → Bool
  | .Name .. | .Attribute .. | .Subscript .. | .Constant .. | .List .. => true
  | .Call (.Attribute ..) _ _ _ => true
  | .Call (.Name ..) (_ :: _) _ _ => true
  | _ => false
def mtTab (m : Str) (n : Nat) : Option ((D → Hh → Bool) × (D → List D → Hh → R D)) :=
  if m == ("append" : Str) ∧ n ≠ 0 then some (chkL, mAppend)
  else if m == ("pop" : Str) then (if n = 0 then some (chkL, mPop) else some (chkL, mPopAt))
  else if m == ("reverse" : Str) ∧ n = 0 then some (chkL, mRev)
  else if m == ("insert" : Str) ∧ n ≠ 0 then some (chkL, mInsert)
  else if m == ("extend" : Str) ∧ n ≠ 0 then some (chkL, mExtend)
  else if m == ("index" : Str) ∧ n ≠ 0 then some (chkL, mIndex)
  else if m == ("remove" : Str) ∧ n ≠ 0 then some (chkL, mRemove)
  else if m == ("split" : Str) ∧ n ≠ 0 then some (chkS, mSplit)
  else if m == ("join" : Str) ∧ n ≠ 0 then some (chkS, mJoin)
  else if m == ("rfind" : Str) ∧ n ≠ 0 then some (chkS, mRfind)
  else if m == ("partition" : Str) ∧ n ≠ 0 then some (chkS, mPart)
  else none
def mtF (f : FD) (dv : List D) : FD := fun ds h => f (ds ++ dv) h
def G.mt (g : G) (nw : Nat) : List (Nat × Nat × Nat × List D) → List (Nat × FD)
  | [] => []
  | (c, id, n, dv) :: r => if nw + 1 ≤ n ∧ n - (nw + 1) ≤ dv.length then (c, mtF (g.T id) (dv.drop (dv.length - (n - (nw + 1))))) :: g.mt nw r else g.mt nw r
def denF (d : DD) (g : G) (o : Expr) (f : Str) : ED := match g.fid f with
  | some i => match g.exc o with
    | some y => dXf g.xa y i
    | none => if okBase o = true then dFld i (d.E g o) else dK
  | none => match g.ms.lookup f with
    | some [(c, id, n, dv)] => if g.calm = true ∧ n = 0 ∧ okBase o = true then dPr c (g.T id) (d.E g o) else dK
    | _ => dK
def kwn : List Keyword → Option (List Str)
  | [] => some []
  | k :: r => match k.arg, kwn r with
    | some x, some l => some (x :: l)
    | _, _ => none
def denK (d : DD) (g : G) (x : Str) (args : List Expr) (kws : List Keyword) : ED := match g.glob x with
  | some (.ucls c id _ _ _ ks) => match kwn kws with
    | some l => match ks.find? (fun t => t.1 == args.length && t.2.1 == l) with
      | some t => if g.calm = true ∧ args.any isStar = false then dMkK c (g.T id) t.2.2.1 t.2.2.2 (denA d g args) (denA d g (kws.map (·.value))) else dK
      | none => dK
    | none => dK
  | _ => dK
def denM (d : DD) (g : G) (o : Expr) (m : Str) (apos pos : Pos) (args : List Expr) : ED :=
  if args.any isStar = false ∧ args.length < 20 ∧ (apos.endLine == pos.line) = true ∧ okBase o = true then match mtTab m args.length with
    | some p => dM p.1 p.2 (d.E g o) (denA d g args)
    | none => match g.ms.lookup m with
      | some l => if g.calm = true then dMe (g.mt args.length l) (d.E g o) (denA d g args) else dK
      | none => dK
  else dK
def denO (d : DD) (g : G) : Option Expr → OD
  | none => oN
  | some e => oS (d.E g e)
def G.stos (g : G) : List Expr → Option (List Nat)
  | [] => some []
  | .Name x _ :: es => match g.sto x, g.stos es with
    | some i, some is => some (i :: is)
    | _, _ => none
  | _ => none
def G.tgs (g : G) : List Expr → Option (List Nat × List Tg)
  | [] => some ([], [])
  | .Name x _ :: es => match g.sto x, g.tgs es with
    | some i, some p => some ([i] ++ p.1, gN i :: p.2)
    | _, _ => none
  | .Tuple ts _ _ :: es => match g.stos ts, g.tgs es with
    | some is, some p => some (is ++ p.1, gT is :: p.2)
    | _, _ => none
  | _ => none
def allNm : List Expr → Bool
  | [] => true
  | .Name .. :: es => allNm es
  | _ => false
def G.tg (g : G) : Expr → Option (List Nat × Tg)
  | .Name x _ => (g.sto x).map fun i => ([i], gN i)
  | .Tuple es _ _ => if g.calm = true then (if allNm es = true then (g.stos es).map fun is => (is, gT is) else (g.tgs es).map fun p => (p.1, gTm p.2)) else none
  | _ => none
def isTup : Expr → Bool
  | .Tuple .. => true
  | _ => false
def iK : ID := fun _ _ => .stuck
def denI (d : DD) (g : G) (tg : Expr) : Expr → ID
  | .Call (.Name x p) args [] pos => match g.glob x with
    | some .blt => match args with
      | [a] => if isStar a = true then iK
        else if x == ("range" : Str) then iRange1 (d.E g a)
        else if x == ("reversed" : Str) then iRev (d.E g a)
        else if x == ("enumerate" : Str) ∧ isTup tg = true then iEnum (d.E g a)
        else if x == ("list" : Str) then iSeq (d.E g (.Call (.Name x p) args [] pos))
        else iK
      | [a, b] => if isStar a = true ∨ isStar b = true then iK
        else if x == ("range" : Str) then iRange2 (d.E g a) (d.E g b)
        else if x == ("zip" : Str) ∧ isTup tg = true then iZip (d.E g a) (d.E g b)
        else iK
      | _ => iK
    | _ => iSeq (d.E g (.Call (.Name x p) args [] pos))
  | e => if isSet e = true then iK else iSeq (d.E g e)
def ownOf (g : G) (sc : Scope) : List (Str × Nat) := sc.names.filterMap fun y => match y.2 with
  | .local => (g.ix y.1).map fun i => (y.1, i)
  | .cell => (g.ix y.1).map fun i => (y.1, i)
  | _ => none
def denTs (d : DD) (g : G) : List Expr → TD
  | [] => tY
  | [c] => d.T g c
  | _ => tK
noncomputable def denLc (d : DD) (g : G) (el : Expr) (gs : List Comprehension) (sc : Scope) : ED := match gs with
  | [⟨tg, it, ifs, 0⟩] =>
    let own := ownOf g sc
    let g' : G := { g with sc := relS sc g.sc, md := .blk }
    match g'.tg tg with
    | some (is, t) => if g.calm = true ∧ blkC g.N g.sc sc own = true ∧ is.all (fun i => decide (i ∈ own.map (·.2))) = true ∧ isSet it = false then dLc (denI d g tg it) t (denTs d g' ifs) (d.E g' el) (own.map (·.2)) else dK
    | none => dK
  | [⟨tg, it, ifs, 0⟩, ⟨tg1, it1, ifs1, 0⟩] =>
    let own := ownOf g sc
    let g' : G := { g with sc := relS sc g.sc, md := .blk }
    match g'.tg tg, g'.tg tg1 with
    | some (is, t), some (is1, t1) => if g.calm = true ∧ blkC g.N g.sc sc own = true ∧ is.all (fun i => decide (i ∈ own.map (·.2))) = true ∧ is1.all (fun i => decide (i ∈ own.map (·.2))) = true ∧ isSet it = false ∧ isSet it1 = false then
        dLc2 (denI d g tg it) t (denTs d g' ifs) (denI d g' tg1 it1) t1 (denTs d g' ifs1) (d.E g' el) (own.map (·.2)) is1 else dK
    | _, _ => dK
  | _ => dK
def denBoE (d : DD) (g : G) (op : BoolOp) : List Expr → ED
  | [] => dK
  | [a] => d.E g a
  | a :: b :: r => match op with
    | .And => dAndT (d.E g a) (denBoE d g op (b :: r))
    | .Or => dOrT (d.E g a) (denBoE d g op (b :: r))
def denBoT (d : DD) (g : G) (op : BoolOp) : List Expr → TD
  | [] => tK
  | [a] => d.T g a
  | a :: b :: r => match op with
    | .And => tAnd (d.T g a) (denBoT d g op (b :: r))
    | .Or => tOr (d.T g a) (denBoT d g op (b :: r))
def denIx (d : DD) (g : G) : Expr → Expr → ED
  | .Dict ks vs _, .Subscript (.Name x _) (.Constant (.int k) _ _) _ => match dspOf ks vs, g.ix x with
    | some kvs, some i => if (dspOk kvs && okNm x && g.own x) = true then dDsp kvs i k else dK
    | _, _ => dK
  | a, b => dIx (d.E g a) (d.E g b)
noncomputable def stepE (d : DD) (g : G) : Expr → ED
  | .Name x _ => if okNm x = true then (if g.own x = true then (match g.exc (.Name x ⟨0, 0, 0, 0⟩) with
      | some _ => dK
      | none => match g.ix x with
        | some i => dV i
        | none => dK) else match g.glob x with
      | some (.val v) => dC v
      | _ => dK) else dK
  | .Constant .none _ _ => dC .non
  | .Constant (.bool b) _ _ => dC (.bl b)
  | .Constant (.int i) _ _ => dC (.int i)
  | .Constant (.str s) _ _ => dC (.str s)
  | .BinOp a op b _ => dB op (d.E g a) (d.E g b)
  | .UnaryOp .Not a _ => dNotT (d.E g a)
  | .UnaryOp op a _ => dU op (d.E g a)
  | .BoolOp op es _ => denBoE d g op es
  | .Compare a [op] [b] _ => if behindInMarks op b = true then dK else dCmp op (d.E g a) (d.E g b)
  | .Compare a [op, op'] [b, c] _ => if lastMarks [op, op'] [b, c] = true then dK else dCh op op' (d.E g a) (d.E g b) (d.E g c)
  | .IfExp c a b _ => dIf (d.T g c) (d.E g a) (d.E g b)
  | .Call (.Name x _) args [] _ => denC d g x args
  | .Call (.Name x _) args (k :: ks) _ => denK d g x args (k :: ks)
  | .Call (.Attribute o m apos) args [] pos => denM d g o m apos pos args
  | .Attribute o f _ => denF d g o f
  | .Subscript a (.Slice lo hi none _) _ => dSl (d.E g a) (denO d g lo) (denO d g hi)
  | .Subscript a b _ => if isSlice b = true then dK else denIx d g a b
  | .Tuple es _ _ => if es.any isStar = true then dK else dTup (denA d g es)
  | .List es _ => if es.any isStar = true then dK else dLst (denA d g es)
  | .ListComp el gs sc _ => denLc d g el gs sc
  | _ => dK
def plainT : Expr → Bool
  | .Name .. | .Call .. | .Subscript .. | .Constant .. | .Attribute .. | .BinOp .. => true
  | _ => false
def stepT (d : DD) (g : G) : Expr → TD
  | .UnaryOp .Not a _ => tNot (d.T g a)
  | .BoolOp op es _ => denBoT d g op es
  | .Compare a [op] [b] _ => if behindInMarks op b = true then tK else tB (dCmp op (d.E g a) (d.E g b))
  | .Compare a [op, op'] [b, c] _ => if lastMarks [op, op'] [b, c] = true then tK else tB (dCh op op' (d.E g a) (d.E g b) (d.E g c))
  | e => if plainT e = true then tE (d.E g e) else tK
def denSs (d : DD) (g : G) : List Stmt → SD
  | [] => sNx
  | [s] => d.S g s
  | s :: t :: r => sSq (d.S g s) (denSs d g (t :: r))
def gK : GD := fun _ _ _ => .stuck
def denG (d : DD) (g : G) : Expr → GD
  | .Subscript o i _ => if isSlice i = true then gK else gIx (d.E g o) (d.E g i)
  | e => match g.tg e with
    | some (_, t) => ofG t
    | none => gK
def okAs (tg e : Expr) : Bool := match tg with
  | .Name .. => !isLc e
  | .Subscript .. => true
  | .Tuple .. => !isTup e
  | _ => false
def denAug (g : G) (d : DD) (x : Str) (op : Operator) (e : Expr) : SD := match g.sto x with
  | some i => fun ev h => (dV i ev h).toS ev fun v h1 => (d.E g e ev h1).toS ev fun w h2 => (iop op v w h2).toS ev fun z h3 => .go .nx (ev.set i (some z)) h3
  | none => sK
def denH (d : DD) (g : G) : List ExceptHandler → Option (Hd)
  | [.ExceptHandler (some (.Name x np)) (some n) (b :: bs) _] => match g.cid (.Name x np), g.ix n with
    | some c, some i => if g.sc.names.lookup n == some .local && okNm n then some ⟨c, some i, fun y => denSs d { g with md := .suite y (some (n, i)) } (b :: bs)⟩ else none
    | _, _ => none
  | [.ExceptHandler (some (.Name x np)) none (b :: bs) _] => match g.cid (.Name x np) with
    | some c => some ⟨c, none, fun y => denSs d { g with md := .suite y none } (b :: bs)⟩
    | none => none
  | _ => none
def denHs (d : DD) (g : G) : List ExceptHandler → Option (List Hd)
  | [] => some []
  | h :: hs => match denH d g [h], denHs d g hs with
    | some a, some r => some (a :: r)
    | _, _ => none
def okPar (g : G) (x y : Str) (px py : Pos) (a b : Expr) : Bool := g.calm && g.sc.kind == .function && !isStar a && !isStar b && py.line == px.line && g.sc.names.lookup x == some .local && g.sc.names.lookup y == some .local && !(x == y)
  && !(foldedForSure 8 a && foldedForSure 8 b) && !(constantsAlone 8 a && constantsAlone 8 b)
def okFold (a b : Expr) : Bool := foldedForSure 8 a && foldedForSure 8 b
def denPar (d : DD) (g : G) (x y : Str) (px py : Pos) (a b : Expr) (alt : SD) : SD := match g.ix x, g.ix y with
  | some i, some j => if okPar g x y px py a b = true then sPar i j (d.E g a) (d.E g b) else if okFold a b = true then alt else sK
  | _, _ => sK
noncomputable def stepS (d : DD) (g : G) : Stmt → SD
  | .Pass _ => sNx
  | .Break _ => sBk
  | .Continue _ => sCt
  | .Expr e _ => if isLc e = true then sK else sEx (d.E g e)
  | .Return (some e) _ => sRt (d.E g e)
  | .Return none _ => sRt (dC .non)
  | .If c a b _ => sIf (d.T g c) (denSs d g a) (denSs d g b)
  | .Assign [.Name y py] (.ListComp el gs sc cpos) _ => if (g.sc.names.lookup y == some .cell) = true then sAs (d.E g (.ListComp el gs sc cpos)) (denG d g (.Name y py)) else match g.sto y with
    | some i => if g.sc.names.lookup y == some .local && py.line == cpos.line && !(sc.names.any fun (n, k) => n == y && (k == .local || k == .cell)) && g.calm then sAs (denLc d g el gs sc) (ofG (gN i)) else sK
    | none => sK
  | .Assign [.Tuple [.Name x px, .Name y py] kt pt] (.Tuple [a, b] k2 pt2) _ => denPar d g x y px py a b (sAs (d.E g (.Tuple [a, b] k2 pt2)) (denG d g (.Tuple [.Name x px, .Name y py] kt pt)))
  | .Assign [.Attribute o f _] e _ => match g.fid f with
    | some i => if okBase o = true then sFl naT i (d.E g o) (d.E g e) else sK
    | none => sK
  | .Assign [tg] e _ => if okAs tg e = true then sAs (d.E g e) (denG d g tg) else sK
  | .AugAssign (.Name x _) op e _ => denAug g d x op e
  | .AugAssign (.Subscript o i _) op e _ => if isSlice i = true then sK else sAugI (iop op) (d.E g o) (d.E g i) (d.E g e)
  | .AugAssign (.Attribute o f _) op e _ => match g.fid f with
    | some i => sAugF naT i (iop op) (d.E g o) (d.E g e)
    | none => sK
  | .For tg it body [] _ => if g.calm = true ∧ isSet it = false then match g.tg tg with
      | some (_, t) => sFor (denI d g tg it) t (denSs d g body)
      | none => sK
    else sK
  | .While c body [] _ => whGo (d.T g c) (denSs d g body) g.fuel
  | .Raise (some (.Call (.Name x _) [] [] _)) none _ => if g.calm = true then match g.glob x with
      | some (.cls c) => sRaise c
      | _ => sK
    else sK
  | .Raise (some (.Call (.Name x _) (a :: as) [] _)) none _ => if g.calm = true ∧ (a :: as).any isStar = false then match g.glob x with
      | some (.xcls c fs) => if fs ≠ [] ∧ fs.length < 900 then sRaiseA c fs (denA d g (a :: as)) else sK
      | _ => sK
    else sK
  | .Try body hs [] [] _ => match g.md with
    | .body => match denH d g hs with
      | some hd => sTry g.sub (denSs d g body) hd
      | none => match hs, denHs d g hs with
        | _ :: _, some hds => sTryM g.sub (denSs d g body) hds
        | _, _ => sK
    | _ => sK
  | _ => sK
noncomputable def dd : Nat → DD
  | 0 => ⟨fun _ _ => dK, fun _ _ => tK, fun _ _ => sK⟩
  | n + 1 => ⟨stepE (dd n), stepT (dd n), stepS (dd n)⟩
end Mn
namespace Mn
open PySem L2
def GlOk (K : PySem.W.Frag) (mg : Str → Option Value) (cv : Nat → Value) (x : Str) : GV → Prop
  | .blt => mg x = none
  | .bf id => mg x = some (.builtin id)
  | .val d => ∃ u v, mg x = some u ∧ RelV v u ∧ ∀ m N H, RD K m N H d v
  | .fn _ _ _ => True
  | .cls c => ∃ C, cv c = .ref C ∧ mg x = some (.ref C) ∧ PySem.W.keepIn K (.ref C) = true ∧ PySem.W.excIn K C [.type "ValueError", .type "Exception", .type "BaseException", .type "object"] "ValueError.__new__" = true ∧
      PySem.W.subIn K (.ref C) (.type "BaseException") = some true ∧ PySem.W.typeIn K (.ref C) = some (.type "type")
  | .bcls c => ∃ n : String, cv c = .type n ∧ mg x = none ∧ bootBuiltins x = some (.type n)
  | .ucls _ _ _ _ _ _ => True
  | .xcls c fs => ∃ C, cv c = .ref C ∧ mg x = some (.ref C) ∧ PySem.W.keepIn K (.ref C) = true ∧ OexC K C ∧ ∃ (fI : Addr) (fd : FuncData) (ps : List Str), PySem.W.findIn K (.ref C) "__init__" = some (some (.ref fI)) ∧ PySem.W.typeIn K (.ref fI) = some (.type "function") ∧
      (∀ (P : Program) (w : World) (mg : Str → Option Value) (base : Heap) (CX : CXT), FnOk P w K mg base CX 1 fI fd ps (spX K C (fs.map fnm))) ∧ Binds K fd ps []
def KsOk (K : PySem.W.Frag) (fd : FuncData) (ps : List Str) (n : Nat) (t : Nat × List Str × List KP × List D) : Prop := ∃ (nvs : List V) (mv : List Value), (∀ m N H, RDs K m N H t.2.2.2 nvs) ∧ KBn K fd ps (t.1 + 1) t.2.1 (fun us ws => gKP t.2.2.1 us mv ws) (fun vs zs => gKP t.2.2.1 vs nvs zs) ∧
  ∀ us mv ws : List D, us.length = t.1 + 1 → mv.length = t.2.2.2.length → ws.length = t.2.1.length → (gKP t.2.2.1 us mv ws).length = n
structure FnsOk (P : Program) (w : World) (K : PySem.W.Frag) (mg : Str → Option Value) (base : Heap) (cv : Nat → Value) (fn : Nat → Str) (gl : List (Str × GV)) (ms : List (Str × List (Nat × Nat × Nat × List D))) (k : Nat) (T : Nat → FD) : Prop where
  fns : ∀ (x : Str) (id n : Nat) (dv : List D), gl.lookup x = some (.fn id n dv) → ∃ (f : Addr) (fd : FuncData) (ps : List Str) (dvs : List V), mg x = some (.ref f) ∧ PySem.W.keepIn K (.ref f) = true ∧ ps.length = n ∧
    FnOk P w K mg base (L2.CX P w) k f fd ps (spT ⟨K, cv, fn, none⟩ n (T id)) ∧ (∀ m N H, RDs K m N H dv dvs) ∧ ∀ j, j ≤ dv.length → ∃ ws, Vals (dvs.drop j) ws ∧ Binds K fd ps ws
  cls : ∀ (x : Str) (c id n : Nat) (dv : List D) (pc : List Nat) (ks : List (Nat × List Str × List KP × List D)), gl.lookup x = some (.ucls c id n dv pc ks) → ∃ (C g : Addr) (fd : FuncData) (ps : List Str) (dvs : List V), mg x = some (.ref C) ∧ cv c = .ref C ∧ Cls K C ∧ Mk K C g ∧ ps.length = n ∧
    FnOk P w K mg base (L2.CX P w) k g fd ps (spT ⟨K, cv, fn, none⟩ n (T id)) ∧ (∀ m N H, RDs K m N H dv dvs) ∧ (∀ j, pc.elem j = true → j + 1 ≤ n ∧ n - (j + 1) ≤ dv.length ∧ ∃ ws, Vals (dvs.drop (dv.length - (n - (j + 1)))) ws ∧ Binds K fd ps ws) ∧ ∀ t ∈ ks, KsOk K fd ps n t
  mts : ∀ (m : Str) (l : List (Nat × Nat × Nat × List D)), ms.lookup m = some l → ∀ e ∈ l, ∃ (C g : Addr) (fd : FuncData) (ps : List Str) (dvs : List V), cv e.1 = .ref C ∧ MethP K C m e.2.2.1 g ∧ ps.length = mN e.2.2.1 ∧
    FnOk P w K mg base (L2.CX P w) k g fd ps (spT ⟨K, cv, fn, none⟩ (mN e.2.2.1) (T e.2.1)) ∧ (∀ m N H, RDs K m N H e.2.2.2 dvs) ∧ ∀ j, j ≤ e.2.2.2.length → ∃ ws, Vals (dvs.drop j) ws ∧ Binds K fd ps ws
structure XOk (X : Cx) (g : G) (cv : Nat → Value) (fn : Nat → Str) (xs : Xs) : Prop where
  N : X.N = g.N
  nd : X.N.Nodup
  sc : X.env.scope = g.sc
  hu : X.A.units + 65 < cLine
  fnT : g.md ≠ .blk → ∀ x, X.fn x = true
  calm : g.calm = true → X.calm = true ∧ xs = none ∧ ∃ k, Room (k + 1) X.A ∧ 1 ≤ k ∧ FnsOk X.prog X.w X.K X.mg X.base cv fn g.gl g.ms k g.T
  gl : ∀ x v, g.gl.lookup x = some v → GlOk X.K X.mg cv x v
  sub : ∀ c1 c2 b, g.sub c1 c2 = some b → PySem.W.exmOne X.K (cv c1) (cv c2) = some b
  isi : ∀ c1 c2 b, g.isi c1 c2 = some b → PySem.W.kitOne X.K (cv c1) (cv c2) = some b ∧ ∃ C, cv c1 = .ref C ∧ ExcC X.K C
  body : g.md = .body → X.stack = X.env :: X.outer ∧ X.env.frame = some X.env.locals
  na : NaOk X.K cv naT
  xf : ∀ c f, (g.xa c).elem f = true → ∃ C, cv c = .ref C ∧ XfC X.K C ∧ PySem.W.findIn X.K (.ref C) (fnm f) = some none
  suite : ∀ y n i, g.md = .suite y (some (n, i)) → X.N[i]? = some n ∧ X.env.scope.names.lookup n = some .local ∧ okNm n = true ∧ ∃ a dd, xs = some (i, a, y, dd) ∧
    (∀ c2 b, g.isi y.cls c2 = some b → CallR X (.builtin "isinstance") (fun vs H Q => ∃ v, vs = [.ref a, v] ∧ (∀ d, dd = some d → ∃ fs, H d = some (.xd fs)) ∧ (∀ u, RelV v u → u = cv c2) ∧ Q (.bl b) H)) ∧
    ∀ f C e te pos, cv y.cls = .ref C → XfC X.K C → PySem.W.findIn X.K (.ref C) (fnm f) = some none → PE X e te → attributeBase e (fnm f) X.env (eval e X.env) = eval e X.env → PE X (.Attribute e (fnm f) pos) (tXf a (cv y.cls) dd C (fnm f) te)
  suiteN : ∀ y, g.md = .suite y none → xs = none
  dig : X.base.NoDigits
section
variable {X : Cx} {g : G} {cv : Nat → Value} {fn : Nat → Str} {xs : Xs} {W : WX} {pos : Pos}
theorem e_K {e : Expr} : PE X e (PE_ (FX X cv fn xs) W dK) := ⟨fun _ _ _ _ _ _ ⟨_, _, _, _, _, p⟩ => p.elim⟩
theorem t_K {e : Expr} : PT X e (PT_ (FX X cv fn xs) W tK) := ⟨fun _ _ _ _ _ _ ⟨_, _, _, _, _, p⟩ => p.elim⟩
theorem s_K {e : Stmt} : PS X e (PS_ (FX X cv fn xs) W sK) := ⟨fun _ _ _ _ _ _ ⟨_, _, _, _, _, p⟩ => p.elim⟩
theorem i_K {tg e : Expr} : PI X tg e (PI_ (FX X cv fn xs) W iK) := ⟨fun _ _ _ _ _ _ ⟨_, _, _, _, _, p⟩ => p.elim⟩
theorem g_K {e : Expr} : PG X e (PGD_ (FX X cv fn xs) W gK) := ⟨fun _ _ _ _ _ _ _ _ _ ⟨_, _, _, _, _, _, _, p⟩ => p.elim⟩
theorem okNm_of {x : Str} (h : okNm x = true) : (x == ("__debug__" : Str)) = false ∧ (x == ("__classdict__" : Str)) = false ∧ x ≠ "__name__" := by
  unfold okNm at h
  simp only [Bool.and_eq_true, Bool.not_eq_true'] at h
  exact ⟨h.1.1, h.1.2, fun z => by have := h.2; rw [z] at this; simp at this⟩
theorem glob_of {x : Str} {v : GV} (o : XOk X g cv fn xs) (h : g.glob x = some v) : Gl X x ∧ GlOk X.K X.mg cv x v ∧ okNm x = true ∧ g.gl.lookup x = some v := by
  unfold G.glob at h
  split at h
  · rename_i hk
    split at h
    · rename_i hn
      exact ⟨by unfold Gl Env.kindOf; rw [o.sc]; exact hk, o.gl x v h, hn, h⟩
    · cases h
  · cases h
theorem ix_of {x : Str} {i : Nat} (o : XOk X g cv fn xs) (h : g.ix x = some i) : X.N[i]? = some x := by
  unfold G.ix at h
  rw [o.N]
  obtain ⟨hl, h1, _⟩ := List.findIdx?_eq_some_iff_getElem.mp h
  rw [List.getElem?_eq_getElem hl]
  exact congrArg some (by simpa using h1)
theorem own_of {x : Str} (o : XOk X g cv fn xs) (h : g.own x = true) : Vis X.env.scope x := by
  unfold Vis
  rw [o.sc]
  unfold G.own at h
  split at h
  · exact .inl (by assumption)
  · exact .inr (.inl (by assumption))
  · exact .inr (.inr (by assumption))
  · cases h
theorem star_of {e : Expr} {es : List Expr} {env : Env} (h : isStar e = false) : starEach (e :: es) env = (false, eval e env) :: starEach es env := by
  cases e <;> first | rfl | (cases h)
theorem plain_of {env : Env} : ∀ {es : List Expr}, es.any isStar = false → (backTo pos (starEach es env)).any (·.1) = false
  | [], _ => rfl
  | e :: es, h => by
    rw [List.any_cons, Bool.or_eq_false_iff] at h
    rw [star_of h.1]
    show (false || (backTo pos (starEach es env)).any (·.1)) = false
    rw [plain_of h.2]
    rfl
theorem ixp_of {b : Expr} (h : isSlice b = false) : PlainIx b := by
  intro o i
  cases b <;> first | rfl | (cases h)
end
structure Sd (d : DD) : Prop where
  E : ∀ (X : Cx) (g : G) (cv : Nat → Value) (fn : Nat → Str) (xs : Xs) (W : WX), XOk X g cv fn xs → Takes X W → ∀ e, PE X e (PE_ (FX X cv fn xs) W (d.E g e))
  T : ∀ (X : Cx) (g : G) (cv : Nat → Value) (fn : Nat → Str) (xs : Xs) (W : WX), XOk X g cv fn xs → Takes X W → ∀ e, PT X e (PT_ (FX X cv fn xs) W (d.T g e))
  S : ∀ (X : Cx) (g : G) (cv : Nat → Value) (fn : Nat → Str) (xs : Xs) (W : WX), XOk X g cv fn xs → Takes X W → PassesOwn (model X.prog X.w) X.A X.env X.xe → g.md ≠ .blk → ∀ e, PS X e (PS_ (FX X cv fn xs) W (d.S g e))
section
variable {X : Cx} {g : G} {cv : Nat → Value} {fn : Nat → Str} {xs : Xs} {W : WX} {pos : Pos} {d : DD}
theorem d_A (hd : Sd d) (o : XOk X g cv fn xs) (tk : Takes X W) : ∀ (es : List Expr), es.any isStar = false → PA X es (PA_ (FX X cv fn xs) W (denA d g es))
  | [], _ => s_aN
  | e :: es, h => by
    rw [List.any_cons, Bool.or_eq_false_iff] at h
    exact s_aC (hd.E X g cv fn xs W o tk e) (d_A hd o tk es h.2) (star_of h.1)
theorem denA_len : ∀ (es : List Expr) (e : Ev) (h : Hh) (ds : List D) (h' : Hh), denA d g es e h = .ok ds h' → ds.length = es.length
  | [], e, h, ds, h', q => by cases q; rfl
  | a :: es, e, h, ds, h', q => by
    unfold denA aC at q
    cases qa : d.E g a e h with
    | stuck => rw [qa] at q; cases q
    | exc x h1 => rw [qa] at q; cases q
    | ok v h1 =>
      rw [qa] at q
      change ((denA d g es e h1).bind fun ds h2 => .ok (v :: ds) h2) = .ok ds h' at q
      cases qb : denA d g es e h1 with
      | stuck => rw [qb] at q; cases q
      | exc x h2 => rw [qb] at q; cases q
      | ok vs h2 =>
        rw [qb] at q
        cases q
        rw [List.length_cons, denA_len es _ _ _ _ qb]
        rfl
theorem d_cb {x : Str} {p : Pos} {id : String} {r : FD} {es : List Expr} {a : Expr} (hd : Sd d) (o : XOk X g cv fn xs) (tk : Takes X W) (hg : g.glob x = some .blt) (hv : bootBuiltins x = some (.builtin id)) (hc : CallR X (.builtin id) (rN (FX X cv fn xs) r)) (hs : (a :: es).any isStar = false) :
    PE X (.Call (.Name x p) (a :: es) [] pos) (PE_ (FX X cv fn xs) W (dCall r (denA d g (a :: es)) [])) := by
  obtain ⟨gl, ok, nm, _⟩ := glob_of o hg
  obtain ⟨n1, n2, n3⟩ := okNm_of nm
  have hs' := hs
  rw [List.any_cons, Bool.or_eq_false_iff] at hs'
  exact peImp (pe_callB hc gl ok hv (d_A hd o tk _ hs) n3 n1 (star_of hs'.1) (plain_of hs'.2)) fun _ _ _ q => bindN q
theorem d_ct {x : Str} {p : Pos} {id : String} {r : FD} {es : List Expr} {a : Expr} (hd : Sd d) (o : XOk X g cv fn xs) (tk : Takes X W) (hg : g.glob x = some .blt) (hv : bootBuiltins x = some (.type id)) (hc : CallR X (.type id) (rN (FX X cv fn xs) r)) (hs : (a :: es).any isStar = false) :
    PE X (.Call (.Name x p) (a :: es) [] pos) (PE_ (FX X cv fn xs) W (dCall r (denA d g (a :: es)) [])) := by
  obtain ⟨gl, ok, nm, _⟩ := glob_of o hg
  obtain ⟨n1, n2, n3⟩ := okNm_of nm
  have hs' := hs
  rw [List.any_cons, Bool.or_eq_false_iff] at hs'
  exact peImp (pe_callTy hc gl ok hv (d_A hd o tk _ hs) n3 n1 (star_of hs'.1) (plain_of hs'.2)) fun _ _ _ q => bindN q
theorem seq_str {x y : Str} (h : (x == y) = true) : x = y := by simpa using h
theorem exc_of {y : Xc} {a : Expr} (h : g.exc a = some y) : ∃ n pn i, a = .Name n pn ∧ g.md = .suite y (some (n, i)) := by
  unfold G.exc at h
  split at h
  · rename_i n pn
    split at h
    · rename_i y' n' i' hm
      split at h
      · rename_i hn
        cases h
        cases seq_str hn
        exact ⟨_, _, _, rfl, hm⟩
      · cases h
    · cases h
  · cases h
theorem rxf_dict {K : PySem.W.Frag} {m : Nat → Addr} {N : Nat} {H : Hp} {fs : List (Nat × D)} {dd : Option Addr} (r : RXf K m N H fs dd) : ∀ d, dd = some d → ∃ fs, H d = some (.xd fs) := fun d e => by
  by_cases z : fs = []
  · have := r.1 z; rw [e] at this; cases this
  · obtain ⟨dx, vs, e1, e2, _⟩ := r.2 z
    rw [e] at e1
    cases e1
    exact ⟨vs, e2⟩
theorem d_is {p : Pos} {a b : Expr} (hd : Sd d) (o : XOk X g cv fn xs) (tk : Takes X W) (hg : g.glob "isinstance" = some .blt) (hs : [a, b].any isStar = false) :
    PE X (.Call (.Name "isinstance" p) [a, b] [] pos) (PE_ (FX X cv fn xs) W (denIs d g a b)) := by
  obtain ⟨gl, ok, nm, _⟩ := glob_of o hg
  obtain ⟨n1, n2, n3⟩ := okNm_of nm
  simp only [List.any_cons, List.any_nil, Bool.or_false, Bool.or_eq_false_iff] at hs
  have ha1 : starEach [a, b] X.env = [(false, eval a X.env), (false, eval b X.env)] := by rw [star_of hs.1, star_of hs.2]; rfl
  have hb1 : starEach [b] X.env = [(false, eval b X.env)] := by rw [star_of hs.2]; rfl
  have hpl : (backTo pos (starEach [b] X.env)).any (·.1) = false := plain_of (by simp [hs.2])
  unfold denIs
  split
  · rename_i y ey
    split
    · rename_i c ec
      unfold isX
      split
      · rename_i k ek
        obtain ⟨n, pn, i', ea, hm⟩ := exc_of ey
        subst ea
        obtain ⟨hi, hloc, hnm, ad, dd, hxs, hcall, _⟩ := o.suite _ _ _ hm
        have hc := hcall c k ek
        -- the class
        obtain ⟨v, hv, hPE⟩ : ∃ v, (∀ u, RelV v u → u = cv c) ∧ PE X b (tC v) := by
          unfold G.cid at ec
          split at ec
          · rename_i z pz
            split at ec
            · rename_i c' hz
              cases ec
              obtain ⟨gz, ⟨C, e1, e2, _⟩, nz, _⟩ := glob_of o hz
              exact ⟨.ref C, fun u r => by rw [e1]; exact r, pe_glob gz e2 rfl (okNm_of nz).1⟩
            · rename_i c' hz
              cases ec
              obtain ⟨gz, ⟨C, e1, e2, e3⟩, nz, _⟩ := glob_of o hz
              exact ⟨.ty C, fun u r => by rw [e1]; exact r, pe_bltn gz e2 e3 rfl (okNm_of nz).2.2 (okNm_of nz).1⟩
            · rename_i c' _ hz
              cases ec
              obtain ⟨gz, ⟨C, e1, e2, _⟩, nz, _⟩ := glob_of o hz
              exact ⟨.ref C, fun u r => by rw [e1]; exact r, pe_glob gz e2 rfl (okNm_of nz).1⟩
            · cases ec
          · cases ec
        have hvis : PE X (.Name n pn) (fun σ H Q => σ[i']? = some (some (.ref ad)) ∧ Q (.ref ad) H) :=
          peImp (pe_var hi (.inl hloc) (okNm_of hnm).1 (okNm_of hnm).2.1) fun σ H Q q => ⟨_, q.1, q.2⟩
        refine peImp (pe_callB hc gl ok (by rfl) (pa2 hvis hPE ha1 hb1) n3 n1 (by rw [ha1, hb1]) hpl) fun σ H Q q => ?_
        obtain ⟨m, e, h, rh, re, p⟩ := q
        obtain ⟨e1, e2⟩ := re.exc i' ad y dd hxs
        exact ⟨e1, v, rfl, rxf_dict e2, hv, p.here rh (.bl _)⟩
      · exact e_K
    · exact e_K
  · split
    · rename_i t pt
      split
      · rename_i ty h1 h2
        obtain ⟨gt, mt, nt, _⟩ := glob_of o h1
        have key : ∃ tn : String, ty.nm = tn ∧ bootBuiltins t = some (.type tn) := by
          unfold tyOf at h2
          split at h2
          · rename_i z; cases h2; rw [seq_str z]; exact ⟨_, rfl, by rfl⟩
          · split at h2
            · rename_i z; cases h2; rw [seq_str z]; exact ⟨_, rfl, by rfl⟩
            · split at h2
              · rename_i z; cases h2; rw [seq_str z]; exact ⟨_, rfl, by rfl⟩
              · split at h2
                · rename_i z; cases h2; rw [seq_str z]; exact ⟨_, rfl, by rfl⟩
                · split at h2
                  · rename_i z; cases h2; rw [seq_str z]; exact ⟨_, rfl, by rfl⟩
                  · cases h2
        obtain ⟨tn, k1, k2⟩ := key
        exact s_is k1 gl ok (pe_bltn (v := .ty tn) gt mt k2 rfl (okNm_of nt).2.2 (okNm_of nt).1) (hd.E X g cv fn xs W o tk a) ha1 hb1 hpl
      · exact e_K
    · exact e_K
end
end Mn
namespace Mn
open PySem L2
section
variable {X : Cx} {g : G} {cv : Nat → Value} {fn : Nat → Str} {xs : Xs} {W : WX} {pos : Pos} {d : DD}
theorem beqs {x y : Str} (h : (x == y) = true) : x = y := by simpa using h
theorem rng_rd {K : PySem.W.Frag} {m : Nat → Addr} {N : Nat} {H : Hp} {lo : Int} {n : Nat} : RDs K m N H ((List.range n).map fun (i : Nat) => D.int (lo + (i : Int))) ((List.range n).map fun (i : Nat) => V.int (lo + (i : Int))) := by
  generalize List.range n = l
  induction l with
  | nil => exact .nil
  | cons a l ih => exact .cons (.int _) ih
theorem d_L {p : Pos} {a : Expr} (hd : Sd d) (o : XOk X g cv fn xs) (tk : Takes X W) (hg : g.glob "list" = some .blt) (hs : [a].any isStar = false) :
    PE X (.Call (.Name "list" p) [a] [] pos) (PE_ (FX X cv fn xs) W (denL d g a)) := by
  have plain : PE X (.Call (.Name "list" p) [a] [] pos) (PE_ (FX X cv fn xs) W (dCall fList (denA d g [a]) [])) := d_ct hd o tk hg (by rfl) c_list hs
  obtain ⟨gl, ml, nl, _⟩ := glob_of o hg
  unfold denL
  split
  · split
    · rename_i b pos2 oo hb
      obtain ⟨gy, my, ny, _⟩ := glob_of o hb
      split
      · exact plain
      · rename_i hst
        have hst := Bool.eq_false_iff.mpr hst
        split
        · rename_i z
          cases beqs z
          split
          · rename_i hc
            obtain ⟨cm, hxs, _⟩ := o.calm hc
            refine peImp (pe_lRev cm gl ml gy my (hd.E X g cv fn xs W o tk b) (star_of hst)) fun σ H Q q => ?_
            obtain ⟨m, e, h, rh, re, p⟩ := q
            refine ⟨m, e, h, rh, re, ?_⟩
            have p' := p
            unfold dCall denA at p'
            unfold aC denA aN at p'
            cases qb : d.E g b e h with
            | stuck => rw [qb] at p'; exact p'.elim
            | exc x h1 => rw [qb] at p'; exact p'
            | ok v h1 =>
              rw [qb] at p'
              intro m1 H1 w g1 rh1 r1
              have p1 : PO (FX X cv fn xs) W (rdR (FX X cv fn xs)) σ m1 h1 H1 (fLRev [v] h1) Q := PO.base (r := fLRev [v] h1) p' g1
              unfold fLRev at p1
              split at p1
              · rename_i n e0
                cases e0
                cases r1
                split at p1
                · rename_i ys ey
                  obtain ⟨_, vs, sq, r⟩ := rh1.lst ey
                  exact ⟨_, vs, rfl, sq, p1.new rh1 r.reverse⟩
                · exact p1.elim
              · exact p1.elim
          · exact e_K
        · split
          · rename_i z
            cases beqs z
            split
            · rename_i hc
              obtain ⟨cm, hxs, _⟩ := o.calm hc
              refine peImp (pe_listRg cm gl ml (prg_1 gy my (hd.E X g cv fn xs W o tk b) (star_of hst)) rfl) fun σ H Q q => ?_
              obtain ⟨m, e, h, rh, re, p⟩ := q
              refine ⟨m, e, h, rh, re, ?_⟩
              have p' := p
              unfold dCall denA at p'
              unfold aC denA aN at p'
              cases qb : d.E g b e h with
              | stuck => rw [qb] at p'; exact p'.elim
              | exc x h1 => rw [qb] at p'; exact p'
              | ok v h1 =>
                rw [qb] at p'
                intro m1 H1 w g1 rh1 r1
                have p1 : PO (FX X cv fn xs) W (rdR (FX X cv fn xs)) σ m1 h1 H1 (fLRng [v] h1) Q := PO.base (r := fLRng [v] h1) p' g1
                unfold fLRng at p1
                split at p1
                · rename_i n e0
                  cases e0
                  cases r1
                  split at p1
                  · rename_i hb
                    have b2 : n < 16777216 := hb.2
                    refine ⟨_, rfl, ⟨by omega, by omega, hb.1, by omega, by omega⟩, ?_⟩
                    have e3 : rgV 0 n = (rgV 0 n) := rfl
                    refine p1.new rh1 ?_
                    unfold rgV rngD
                    rw [Int.sub_zero]
                    exact rng_rd
                  · exact p1.elim
                · rename_i e0; cases e0
                · exact p1.elim
            · exact e_K
          · exact plain
    · exact plain
  · split
    · rename_i b c pos2 oo hb
      obtain ⟨gy, my, ny, _⟩ := glob_of o hb
      split
      · exact plain
      · rename_i hst
        simp only [not_or, Bool.not_eq_true] at hst
        split
        · rename_i z
          cases beqs z
          split
          · rename_i hc
            obtain ⟨cm, hxs, _⟩ := o.calm hc
            refine peImp (pe_listRg cm gl ml (prg_2 gy my (hd.E X g cv fn xs W o tk b) (hd.E X g cv fn xs W o tk c) (star_of hst.1) (star_of hst.2) (by rw [star_of hst.2]; rfl)) rfl) fun σ H Q q => ?_
            obtain ⟨m, e, h, rh, re, p⟩ := q
            refine ⟨m, e, h, rh, re, ?_⟩
            have p' := p
            unfold dCall denA aC denA at p'
            unfold aC denA aN at p'
            cases qb : d.E g b e h with
            | stuck => rw [qb] at p'; exact p'.elim
            | exc x h1 => rw [qb] at p'; exact p'
            | ok v h1 =>
              rw [qb] at p'
              intro m1 H1 w g1 rh1 r1
              refine ⟨m1, e, h1, rh1, g1.re re, ?_⟩
              change PO _ _ _ _ _ _ _ ((((d.E g c e h1).bind fun d2 h2 => R.ok [d2] h2).bind fun ds h2 => R.ok (v :: ds) h2).bind fun ds h1 => fLRng (ds ++ []) h1) Q at p'
              cases qc : d.E g c e h1 with
              | stuck => rw [qc] at p'; exact p'.elim
              | exc x h1 => rw [qc] at p'; exact PO.base (r := R.exc x h1) p' g1
              | ok v2 h2 =>
                rw [qc] at p'
                intro m2 H2 w2 g2 rh2 r2
                have p1 : PO (FX X cv fn xs) W (rdR (FX X cv fn xs)) σ m2 h2 H2 (fLRng [v, v2] h2) Q := PO.base (r := fLRng [v, v2] h2) p' (g1.trans g2)
                have r1' := g2.rd r1
                unfold fLRng at p1
                split at p1
                · rename_i e0; cases e0
                · rename_i lo n e0
                  cases e0
                  cases r1'
                  cases r2
                  split at p1
                  · rename_i hb
                    have b2 : (n - lo).toNat ≤ 16777216 := hb.2.2.2.2
                    refine ⟨_, _, rfl, rfl, ⟨hb.1, hb.2.1, hb.2.2.1, hb.2.2.2.1, by omega⟩, ?_⟩
                    refine p1.new rh2 ?_
                    unfold rgV rngD
                    exact rng_rd
                  · exact p1.elim
                · exact p1.elim
          · exact e_K
        · exact plain
    · exact plain
  · exact plain
theorem d_Len {p : Pos} {a : Expr} (hd : Sd d) (o : XOk X g cv fn xs) (tk : Takes X W) (hg : g.glob "len" = some .blt) (hs : [a].any isStar = false) :
    PE X (.Call (.Name "len" p) [a] [] pos) (PE_ (FX X cv fn xs) W (denLen d g a)) := by
  have plain : PE X (.Call (.Name "len" p) [a] [] pos) (PE_ (FX X cv fn xs) W (dCall fLen (denA d g [a]) [])) := d_cb hd o tk hg (by rfl) c_len hs
  obtain ⟨gl, ml, nl, _⟩ := glob_of o hg
  unfold denLen
  split
  · split
    · rename_i b pos2 oo hb
      obtain ⟨gy, my, ny, _⟩ := glob_of o hb
      split
      · exact plain
      · rename_i hst
        have hst := Bool.eq_false_iff.mpr hst
        split
        · rename_i z
          cases beqs z
          split
          · rename_i hc
            obtain ⟨cm, hxs, _⟩ := o.calm hc
            refine peImp (pe_setK cm gl ml gy my (hd.E X g cv fn xs W o tk b) (star_of hst)) fun σ H Q q => ?_
            obtain ⟨m, e, h, rh, re, p⟩ := q
            refine ⟨m, e, h, rh, re, ?_⟩
            have p' := p
            unfold dCall denA at p'
            unfold aC denA aN at p'
            cases qb : d.E g b e h with
            | stuck => rw [qb] at p'; exact p'.elim
            | exc x h1 => rw [qb] at p'; exact p'
            | ok v h1 =>
              rw [qb] at p'
              intro m1 H1 w g1 rh1 r1
              have p1 : PO (FX X cv fn xs) W (rdR (FX X cv fn xs)) σ m1 h1 H1 (fLenS [v] h1) Q := PO.base (r := fLenS [v] h1) p' g1
              unfold fLenS at p1
              split at p1
              · rename_i n e0
                cases e0
                cases r1
                split at p1
                · rename_i ys ey
                  split at p1
                  · rename_i ks ek
                    split at p1
                    · rename_i h4
                      obtain ⟨_, vs, sq, r⟩ := rh1.lst ey
                      have ev := dKeys_rd r ek
                      subst ev
                      exact ⟨_, ks, rfl, sq, h4, p1 m1 H1 _ Ge.refl rh1 (.int _)⟩
                    · exact p1.elim
                  · exact p1.elim
                · exact p1.elim
              · exact p1.elim
          · exact e_K
        · exact plain
    · exact plain
  · exact plain
theorem pe_ite {e : Expr} {c : Prop} [Decidable c] {fa fb : ED} (h1 : c → PE X e (PE_ (FX X cv fn xs) W fa)) (h2 : ¬ c → PE X e (PE_ (FX X cv fn xs) W fb)) : PE X e (PE_ (FX X cv fn xs) W (if c then fa else fb)) := by
  by_cases z : c
  · rw [if_pos z]; exact h1 z
  · rw [if_neg z]; exact h2 z
theorem d_B {x : Str} {p : Pos} {es : List Expr} (hd : Sd d) (o : XOk X g cv fn xs) (tk : Takes X W) (hg : g.glob x = some .blt) (hs : es.any isStar = false) :
    PE X (.Call (.Name x p) es [] pos) (PE_ (FX X cv fn xs) W (denB d g x es)) := by
  unfold denB
  split
  · refine pe_ite (fun z => by cases beqs z; exact d_Len hd o tk hg hs) fun _ => ?_
    refine pe_ite (fun z => by cases beqs z; exact d_cb hd o tk hg (by rfl) c_abs hs) fun _ => ?_
    refine pe_ite (fun z => by cases beqs z; exact d_ct hd o tk hg (by rfl) c_int hs) fun _ => ?_
    refine pe_ite (fun z => by cases beqs z; exact pe_ite (fun hc => d_ct hd o tk hg (by rfl) (c_strL (o.calm hc).1 o.dig) hs) fun _ => d_ct hd o tk hg (by rfl) c_str hs) fun _ => ?_
    refine pe_ite (fun z => by cases beqs z; exact d_L hd o tk hg hs) fun _ => ?_
    refine pe_ite (fun z => by cases beqs z; exact d_ct hd o tk hg (by rfl) c_tuple hs) fun _ => ?_
    refine pe_ite (fun z => by cases beqs z; exact d_ct hd o tk hg (by rfl) c_rng1 hs) fun _ => ?_
    refine pe_ite (fun hc => ?_) fun _ => e_K
    have hc' := (o.calm hc).1
    refine pe_ite (fun z => by cases beqs z; exact d_cb hd o tk hg (by rfl) (c_sum hc') hs) fun _ => ?_
    refine pe_ite (fun z => by cases beqs z; exact d_cb hd o tk hg (by rfl) (c_all hc') hs) fun _ => ?_
    refine pe_ite (fun z => by cases beqs z; exact d_cb hd o tk hg (by rfl) (c_any hc') hs) fun _ => ?_
    exact pe_ite (fun z => by cases beqs z; exact d_cb hd o tk hg (by rfl) c_sorted hs) fun _ => e_K
  · split
    · rename_i z; cases beqs z; exact d_is hd o tk hg hs
    · split
      · rename_i hc
        have hc' := (o.calm hc).1
        split
        · rename_i z; cases beqs z; exact d_cb hd o tk hg (by rfl) (c_max hc') hs
        · split
          · rename_i z; cases beqs z; exact d_cb hd o tk hg (by rfl) (c_min hc') hs
          · exact e_K
      · exact e_K
  · exact e_K
theorem d_C {x : Str} {p : Pos} {es : List Expr} (hd : Sd d) (o : XOk X g cv fn xs) (tk : Takes X W) : PE X (.Call (.Name x p) es [] pos) (PE_ (FX X cv fn xs) W (denC d g x es)) := by
  unfold denC
  split
  · exact e_K
  · rename_i hs
    have hs : es.any isStar = false := by simpa using hs
    split
    · rename_i id n dv hg
      split
      · rename_i hc
        obtain ⟨hc, hl, hn⟩ := hc
        obtain ⟨gl, _, nm, lk⟩ := glob_of o hg
        obtain ⟨n1, n2, n3⟩ := okNm_of nm
        obtain ⟨cm, hxs, k, hr, _, fns⟩ := o.calm hc
        obtain ⟨f, fd, ps, dvs, h1, h2, h3, h4, h5, h7⟩ := fns.fns x id n dv lk
        have hr := hr.mono (Nat.le_succ k)
        subst hxs
        have hlen : dv.length = dvs.length := (h5 (fun _ => 0) 0 (fun _ => none)).length
        obtain ⟨ws, hv, hb⟩ := h7 (dv.length - (n - es.length)) (Nat.sub_le _ _)
        have hdd : ∀ m N H, RDs X.K m N H (dv.drop (dv.length - (n - es.length))) (dvs.drop (dv.length - (n - es.length))) := fun m N H => (h5 m N H).drop _
        have hq : (dvs.drop (dv.length - (n - es.length))).length = n - es.length := by rw [List.length_drop, ← hlen]; omega
        subst h3
        cases es with
        | nil =>
          exact s_call0 h4 hr gl h1 h2 hb hv hdd (by rw [hq]; exact Nat.sub_zero _) tk n1
        | cons a es =>
          have hs' := hs
          rw [List.any_cons, Bool.or_eq_false_iff] at hs'
          exact s_call h4 hr gl h1 h2 hb hv hdd (by rw [hq]; omega) (fun e h ds h' q => denA_len _ _ _ _ _ q) tk (d_A hd o tk _ hs) n1 (star_of hs'.1) (plain_of hs'.2)
      · exact e_K
    · rename_i f hg
      split
      · rename_i hf
        obtain ⟨rfl, hne⟩ := hf
        obtain ⟨gl, hm, nm, lk⟩ := glob_of o hg
        obtain ⟨n1, n2, n3⟩ := okNm_of nm
        cases es with
        | nil => exact absurd rfl hne
        | cons a es =>
          have hs' := hs
          rw [List.any_cons, Bool.or_eq_false_iff] at hs'
          exact peImp (pe_callBfun c_gcd gl hm (d_A hd o tk _ hs) n1 (star_of hs'.1) (plain_of hs'.2)) fun _ _ _ q => bindN q
      · exact e_K
    · rename_i hg
      exact d_B hd o tk hg hs
    · rename_i c id n dv pc ks hg
      split
      · rename_i hc
        obtain ⟨hc, hp⟩ := hc
        obtain ⟨gl, _, nm, lk⟩ := glob_of o hg
        obtain ⟨cm, hxs, k, hr, _, fns⟩ := o.calm hc
        obtain ⟨C, gI, fd, ps, dvs, h1, h2, h3, h4, h5, h6, h7, h8, _⟩ := fns.cls x c id n dv pc ks lk
        subst hxs
        obtain ⟨l1, l2, ws, hv, hb⟩ := h8 es.length hp
        have hlen : dv.length = dvs.length := (h7 (fun _ => 0) 0 (fun _ => none)).length
        have hs' : es.any isStar = false := by simpa using hs
        subst h5
        refine s_mk ⟨h2, h3, h4, h6, hr⟩ gl h1 (d_A hd o tk _ hs') tk (fun e h ds h' q => denA_len _ _ _ _ _ q) (fun z => by rw [z]; rfl) hb hv (fun m N H => (h7 m N H).drop _) ?_ (fun e r z => ?_) (okNm_of nm).1
        · rw [List.length_drop, ← hlen]; omega
        · subst z
          rw [List.any_cons, Bool.or_eq_false_iff] at hs'
          exact ⟨star_of hs'.1, plain_of hs'.2⟩
      · exact e_K
    · exact e_K
theorem kwn_of {env : Env} : ∀ {kws : List Keyword} {l : List Str}, kwn kws = some l → (backToKw pos (keywordEach kws env)).all (·.1.isSome) = true ∧ (backToKw pos (keywordEach kws env)).filterMap (·.1) = l ∧ (backToKw pos (keywordEach kws env)).any (·.1.isNone) = false ∧ kws.length = l.length
  | [], l, h => by cases h; exact ⟨rfl, rfl, rfl, rfl⟩
  | ⟨nm, e, kp⟩ :: kws, l, h => by
    unfold kwn at h
    dsimp only at h
    split at h
    · rename_i x l' hl
      cases h
      obtain ⟨a, b, c, d⟩ := kwn_of (env := env) hl
      refine ⟨?_, ?_, ?_, congrArg Nat.succ d⟩
      · show (true && (backToKw pos (keywordEach kws env)).all (·.1.isSome)) = true
        rw [a]; rfl
      · show x :: (backToKw pos (keywordEach kws env)).filterMap (·.1) = x :: l'
        rw [b]
      · show (false || (backToKw pos (keywordEach kws env)).any (·.1.isNone)) = false
        rw [c]; rfl
    · cases h
theorem d_PK (hd : Sd d) (o : XOk X g cv fn xs) (tk : Takes X W) : ∀ (kws : List Keyword), PK X kws (PA_ (FX X cv fn xs) W (denA d g (kws.map (·.value))))
  | [] => pk_D0
  | ⟨nm, e, kp⟩ :: kws => pk_D (hd.E X g cv fn xs W o tk e) (d_PK hd o tk kws)
theorem d_K {x : Str} {p : Pos} {es : List Expr} {kws : List Keyword} (hd : Sd d) (o : XOk X g cv fn xs) (tk : Takes X W) : PE X (.Call (.Name x p) es kws pos) (PE_ (FX X cv fn xs) W (denK d g x es kws)) := by
  unfold denK
  split
  · rename_i c id n dv pc ks hg
    split
    · rename_i l hl
      split
      · rename_i t ht
        split
        · rename_i hc
          obtain ⟨hc, hs⟩ := hc
          obtain ⟨gl, _, nm, lk⟩ := glob_of o hg
          obtain ⟨cm, hxs, k, hr, _, fns⟩ := o.calm hc
          obtain ⟨C, gI, fd, ps, dvs, h1, h2, h3, h4, h5, h6, h7, h8, h10⟩ := fns.cls x c id n dv pc ks lk
          subst hxs
          have htm := List.mem_of_find?_eq_some ht
          have htp := List.find?_some ht
          simp only [Bool.and_eq_true] at htp
          obtain ⟨t1, t2⟩ := htp
          have t1 : t.1 = es.length := by simpa using t1
          have t2 : t.2.1 = l := by simpa using t2
          obtain ⟨nvs, mv, h9, hb, hn⟩ := h10 t htm
          rw [t1, t2] at hb
          rw [t1, t2] at hn
          obtain ⟨k1, k2, k3, k4⟩ := kwn_of (pos := pos) (env := X.env) hl
          subst h5
          have hpl1 : (backTo pos (starEach es X.env)).any (·.1) = false := plain_of hs
          refine s_mkK ⟨h2, h3, h4, h6, hr⟩ gl h1 (d_A hd o tk _ hs) (d_PK hd o tk kws) tk (fun e h ds h' q => denA_len _ _ _ _ _ q) (fun e h ds h' q => (denA_len _ _ _ _ _ q).trans ((List.length_map ..).trans k4)) (fun z => by rw [z]; rfl) hb h9 hn (fun e r z => ?_) k1 k2 (by rw [hpl1, k3]; rfl) (okNm_of nm).1
          subst z
          rw [List.any_cons, Bool.or_eq_false_iff] at hs
          exact star_of hs.1
        · exact e_K
      · exact e_K
    · exact e_K
  · exact e_K
theorem tyV_L {T : Fx} {m : Nat → Addr} {h : Hh} {H : Hp} {x : D} {v : V} (rh : RH T m h H) (r : RD T.K m h.length H x v) (c : chkL x h = true) : tyV T.K "list" v H := by
  cases x with
  | ref n =>
    cases r
    obtain ⟨ds, e⟩ := Option.isSome_iff_exists.mp (show (lstAt h n).isSome = true from c)
    obtain ⟨_, vs, q, _⟩ := rh.lst e
    exact .inl ⟨rfl, vs, q⟩
  | _ => cases c
theorem tyV_S {T : Fx} {m : Nat → Addr} {h : Hh} {H : Hp} {x : D} {v : V} (r : RD T.K m h.length H x v) (c : chkS x h = true) : tyV T.K "str" v H := by
  cases x with
  | str n =>
    cases r
    rfl
  | _ => cases c
theorem base_of {oe : Expr} {m : Str} {env : Env} (h : okBase oe = true) : attributeBase oe m env (eval oe env) = eval oe env := by
  cases oe with
  | Call f args kws p => cases f <;> cases args <;> first | rfl | (cases h; done)
  | Name x p => rfl
  | Attribute a b c => rfl
  | Subscript a b c => rfl
  | Constant a b c => rfl
  | List a b => rfl
  | _ => cases h
theorem few_of {env : Env} : ∀ {es : List Expr}, es.any isStar = false → (backTo pos (starEach es env)).all (fun x => !x.1) = true
  | [], _ => rfl
  | e :: es, h => by
    rw [List.any_cons, Bool.or_eq_false_iff] at h
    rw [star_of h.1]
    show (!false && (backTo pos (starEach es env)).all (fun x => !x.1)) = true
    rw [few_of h.2]
    rfl
theorem m_rd {c : D → Hh → Bool} {f : D → List D → Hh → R D} {fa : ED} {fs : AD} {n : String} {σ : L2.St} {H : Hp} {Q : VK} (ht : ∀ m h H x v, RH (FX X cv fn xs) m h H → RD X.K m h.length H x v → c x h = true → tyV X.K n v H) (q : PE_ (FX X cv fn xs) W (dM c f fa fs) σ H Q) :
    PE_ (FX X cv fn xs) W fa σ H fun x H1 => tyV X.K n x H1 ∧ PA_ (FX X cv fn xs) W fs σ H1 fun ys H2 => rM (FX X cv fn xs) f x ys H2 Q := by
  obtain ⟨m, e, h, rh, re, p⟩ := q
  refine ⟨m, e, h, rh, re, p.bind fun dx h1 m1 H1 xv g1 rh1 rx p1 => ?_⟩
  split at p1
  · rename_i hc
    exact ⟨ht _ _ _ _ _ rh1 rx hc, m1, e, h1, rh1, g1.re re, p1.bind fun ds h2 m2 H2 ys g2 rh2 ry p2 => ⟨W, σ, m2, h2, dx, ds, rh2, g2.rd rx, ry, p2⟩⟩
  · exact p1.elim
theorem d_mt {oe : Expr} {m : Str} {apos : Pos} {n id : String} {c : D → Hh → Bool} {f : D → List D → Hh → R D} {a : Expr} {es : List Expr} (hd : Sd d) (o : XOk X g cv fn xs) (tk : Takes X W) (hs : (a :: es).any isStar = false) (hl : (a :: es).length < 20) (hp : (apos.endLine == pos.line) = true) (hb : okBase oe = true)
    (pa : PlainAttrs n) (sl : Slot n m id) (ty : typeOf (.builtin id) = pure (.type "method_descriptor")) (hm : MtR X id (rM (FX X cv fn xs) f)) (ht : ∀ m h H x v, RH (FX X cv fn xs) m h H → RD X.K m h.length H x v → c x h = true → tyV X.K n v H) :
    PE X (.Call (.Attribute oe m apos) (a :: es) [] pos) (PE_ (FX X cv fn xs) W (dM c f (d.E g oe) (denA d g (a :: es)))) := by
  have hs' := hs
  rw [List.any_cons, Bool.or_eq_false_iff] at hs'
  refine peImp (pe_bm pa sl ty hm (hd.E X g cv fn xs W o tk oe) (d_A hd o tk _ hs) (base_of hb) ?_ hp (star_of hs'.1) (plain_of hs'.2)) fun σ H Q q => m_rd ht q
  rw [few_of hs]
  have : decide ((a :: es).length + ([] : List Keyword).length + (if ([] : List Keyword).isEmpty = true then 0 else 1) < 30) = true := decide_eq_true (by
    have e1 : ([] : List Keyword).isEmpty = true := rfl
    rw [if_pos e1]
    simp only [List.length_nil] at *
    omega)
  rw [this]
  rfl
theorem d_mt0 {oe : Expr} {m : Str} {apos : Pos} {n id : String} {c : D → Hh → Bool} {f : D → List D → Hh → R D} (hd : Sd d) (o : XOk X g cv fn xs) (tk : Takes X W) (hp : (apos.endLine == pos.line) = true) (hb : okBase oe = true)
    (pa : PlainAttrs n) (sl : Slot n m id) (ty : typeOf (.builtin id) = pure (.type "method_descriptor")) (hm : MtR X id (rM (FX X cv fn xs) f)) (ht : ∀ m h H x v, RH (FX X cv fn xs) m h H → RD X.K m h.length H x v → c x h = true → tyV X.K n v H) :
    PE X (.Call (.Attribute oe m apos) [] [] pos) (PE_ (FX X cv fn xs) W (dM c f (d.E g oe) aN)) := by
  refine peImp (pe_bm0 pa sl ty hm (hd.E X g cv fn xs W o tk oe) (base_of hb) hp) fun σ H Q q => ?_
  obtain ⟨m, e, h, rh, re, p⟩ := q
  refine ⟨m, e, h, rh, re, p.bind fun dx h1 m1 H1 xv g1 rh1 rx p1 => ?_⟩
  split at p1
  · rename_i hc
    exact ⟨ht _ _ _ _ _ rh1 rx hc, W, σ, m1, h1, dx, [], rh1, rx, .nil, p1⟩
  · exact p1.elim
theorem few_form {es : List Expr} {env : Env} (hs : es.any isStar = false) (hl : es.length < 20) : methodCallForm (es.length + ([] : List Keyword).length) (backTo pos (starEach es env)) (backToKw pos (keywordEach [] env)) = true := by
  unfold methodCallForm
  rw [few_of hs]
  show (true && true && decide (es.length + 0 + 0 < 30)) = true
  simp only [Bool.true_and, Nat.add_zero]
  exact decide_eq_true (by omega)
theorem mcall_eq {oe : Expr} {m : Str} {apos : Pos} {es : List Expr} {env : Env} (hb : okBase oe = true) (hs : es.any isStar = false) (hl : es.length < 20) (hp : (apos.endLine == pos.line) = true) : eval (.Call (.Attribute oe m apos) es [] pos) env = (do
      let ov ← eval oe env
      standAt apos.atName
      let (f, first) ← holding [ov] (getMethod ov m (plainOf oe env))
      callWith pos f first (backTo pos (starEach es env)) (backToKw pos (keywordEach [] env))) := by
  rw [PySem.arm_eval_Call, base_of hb]
  refine congrArg _ (funext fun ov => congrArg _ (funext fun _ => ?_))
  exact mcall_line (few_form hs hl) hp
theorem mt_of {nw : Nat} : ∀ {l : List (Nat × Nat × Nat × List D)} {c : Nat} {f : FD}, (g.mt nw l).lookup c = some f → ∃ e ∈ l, e.1 = c ∧ nw + 1 ≤ e.2.2.1 ∧ e.2.2.1 - (nw + 1) ≤ e.2.2.2.length ∧ f = mtF (g.T e.2.1) (e.2.2.2.drop (e.2.2.2.length - (e.2.2.1 - (nw + 1))))
  | [], c, f, h => by cases h
  | (c', id, n, dv) :: r, c, f, h => by
    unfold G.mt at h
    split at h
    · rename_i hc
      rw [List.lookup_cons] at h
      cases hb : c == c' with
      | true =>
        rw [hb] at h
        cases h
        have : c = c' := by simpa using hb
        subst this
        exact ⟨_, .head _, rfl, hc.1, hc.2, rfl⟩
      | false =>
        rw [hb] at h
        obtain ⟨e, h1, h2⟩ := mt_of h
        exact ⟨e, .tail _ h1, h2⟩
    · obtain ⟨e, h1, h2⟩ := mt_of h
      exact ⟨e, .tail _ h1, h2⟩
theorem d_MU {oe : Expr} {m : Str} {apos : Pos} {es : List Expr} {l : List (Nat × Nat × Nat × List D)} (hd : Sd d) (o : XOk X g cv fn xs) (tk : Takes X W) (hs : es.any isStar = false) (hl : es.length < 20) (hp : (apos.endLine == pos.line) = true) (hb : okBase oe = true) (hc : g.calm = true) (hm : g.ms.lookup m = some l) :
    PE X (.Call (.Attribute oe m apos) es [] pos) (PE_ (FX X cv fn xs) W (dMe (g.mt es.length l) (d.E g oe) (denA d g es))) := by
  obtain ⟨cm, hxs, k, hr, _, fns⟩ := o.calm hc
  subst hxs
  refine s_meth (hd.E X g cv fn none W o tk oe) (d_A hd o tk _ hs) tk (fun e h ds h' q => denA_len _ _ _ _ _ q) (fun z => by rw [z]; rfl) (fun c f hf => ?_) (fun e r z => ?_) (mcall_eq hb hs hl hp)
  · obtain ⟨en, he, rfl, l1, l2, rfl⟩ := mt_of hf
    obtain ⟨C, gm, fd, ps, dvs, h1, h2, h3, h4, h5, h6⟩ := fns.mts m l hm en he
    have hlen : en.2.2.2.length = dvs.length := (h5 (fun _ => 0) 0 (fun _ => none)).length
    obtain ⟨ws, hv, hbd⟩ := h6 (en.2.2.2.length - (en.2.2.1 - (es.length + 1))) (Nat.sub_le _ _)
    rw [mN_of (by omega)] at h3
    rw [mN_of (by omega), ← h3] at h4
    have h2 := h2.meth (by omega)
    exact ⟨C, gm, k, fd, ps, g.T en.2.1, _, _, ws, h1, h2, h4, hr.mono (Nat.le_succ k), hbd, hv, fun m N H => (h5 m N H).drop _, by rw [List.length_drop, ← hlen]; omega, rfl⟩
  · subst z
    rw [List.any_cons, Bool.or_eq_false_iff] at hs
    exact ⟨star_of hs.1, plain_of hs.2⟩
theorem d_M {oe : Expr} {m : Str} {apos : Pos} {es : List Expr} (hd : Sd d) (o : XOk X g cv fn xs) (tk : Takes X W) : PE X (.Call (.Attribute oe m apos) es [] pos) (PE_ (FX X cv fn xs) W (denM d g oe m apos pos es)) := by
  have hu65 : X.A.units + 65 < cLine := o.hu
  unfold denM
  split
  · rename_i hc
    obtain ⟨hs, hl', hp, hb⟩ := hc
    split
    · rename_i q eq
      have hl := hl'
      cases es with
      | nil =>
        unfold mtTab at eq
        simp only [List.length_nil, ne_eq, not_true_eq_false, and_false, if_false, if_true, and_true] at eq
        split at eq
        · rename_i hm
          cases beqs hm
          cases eq
          exact d_mt0 hd o tk hp hb PySem.F.plainAttrs_list PySem.F.slot_list_pop PySem.F.type_list_pop m_pop fun _ _ _ _ _ => tyV_L
        · split at eq
          · rename_i hm
            cases beqs hm
            cases eq
            exact d_mt0 hd o tk hp hb PySem.F.plainAttrs_list PySem.F.slot_list_reverse PySem.F.type_list_reverse m_rev fun _ _ _ _ _ => tyV_L
          · cases eq
      | cons a es =>
        unfold mtTab at eq
        simp only [List.length_cons, ne_eq, Nat.succ_ne_zero, Nat.add_one_ne_zero, not_false_eq_true, and_true, and_false, if_false] at eq
        split at eq
        · rename_i hm
          cases beqs hm
          cases eq
          exact d_mt hd o tk hs hl hp hb PySem.F.plainAttrs_list PySem.F.slot_list_append PySem.F.type_list_append m_append fun _ _ _ _ _ => tyV_L
        · split at eq
          · rename_i hm
            cases beqs hm
            cases eq
            exact d_mt hd o tk hs hl hp hb PySem.F.plainAttrs_list PySem.F.slot_list_pop PySem.F.type_list_pop m_popAt fun _ _ _ _ _ => tyV_L
          · split at eq
            · rename_i hm
              cases beqs hm
              cases eq
              exact d_mt hd o tk hs hl hp hb PySem.F.plainAttrs_list PySem.F.slot_list_insert PySem.F.type_list_insert m_insert fun _ _ _ _ _ => tyV_L
            · split at eq
              · rename_i hm
                cases beqs hm
                cases eq
                exact d_mt hd o tk hs hl hp hb PySem.F.plainAttrs_list PySem.F.slot_list_extend PySem.F.type_list_extend m_extend fun _ _ _ _ _ => tyV_L
              · split at eq
                · rename_i hm
                  cases beqs hm
                  cases eq
                  exact d_mt hd o tk hs hl hp hb PySem.F.plainAttrs_list PySem.F.slot_list_index PySem.F.type_list_index (m_index hu65) fun _ _ _ _ _ => tyV_L
                · split at eq
                  · rename_i hm
                    cases beqs hm
                    cases eq
                    exact d_mt hd o tk hs hl hp hb PySem.F.plainAttrs_list PySem.F.slot_list_remove PySem.F.type_list_remove m_remove fun _ _ _ _ _ => tyV_L
                  · split at eq
                    · rename_i hm
                      cases beqs hm
                      cases eq
                      exact d_mt hd o tk hs hl hp hb PySem.F.plainAttrs_str PySem.F.slot_str_split PySem.F.type_str_split m_split fun _ _ _ _ _ _ r c => tyV_S (T := FX X cv fn xs) r c
                    · split at eq
                      · rename_i hm
                        cases beqs hm
                        cases eq
                        exact d_mt hd o tk hs hl hp hb PySem.F.plainAttrs_str PySem.F.slot_str_join PySem.F.type_str_join m_join fun _ _ _ _ _ _ r c => tyV_S (T := FX X cv fn xs) r c
                      · split at eq
                        · rename_i hm
                          cases beqs hm
                          cases eq
                          exact d_mt hd o tk hs hl hp hb PySem.F.plainAttrs_str PySem.F.slot_str_rfind PySem.F.type_str_rfind m_rfind fun _ _ _ _ _ _ r c => tyV_S (T := FX X cv fn xs) r c
                        · split at eq
                          · rename_i hm
                            cases beqs hm
                            cases eq
                            exact d_mt hd o tk hs hl hp hb PySem.F.plainAttrs_str PySem.F.slot_str_partition PySem.F.type_str_partition m_part fun _ _ _ _ _ _ r c => tyV_S (T := FX X cv fn xs) r c
                          · cases eq
    · split
      · rename_i l hl
        split
        · rename_i hc
          exact d_MU hd o tk hs hl' hp hb hc hl
        · exact e_K
      · exact e_K
  · exact e_K
theorem fid_of {f : Str} {i : Nat} (h : g.fid f = some i) : f = fnm i ∧ i < fnames.length := by
  unfold G.fid at h
  split at h
  · split at h
    · rename_i hc
      cases h
      exact ⟨(beqs hc.1).symm, hc.2⟩
    · cases h
  · cases h
theorem d_F {oe : Expr} {f : Str} (hd : Sd d) (o : XOk X g cv fn xs) (tk : Takes X W) : PE X (.Attribute oe f pos) (PE_ (FX X cv fn xs) W (denF d g oe f)) := by
  unfold denF
  split
  · rename_i i ei
    obtain ⟨rfl, hi⟩ := fid_of ei
    split
    · rename_i y ey
      unfold dXf
      split
      · rename_i hx
        split
        · rename_i dv ed
          obtain ⟨n, pn, j, ea, hm⟩ := exc_of ey
          subst ea
          obtain ⟨hn, hloc, hnm, ad, dd, hxs, _, hfld⟩ := o.suite _ _ _ hm
          obtain ⟨C, hC, hXf, hno⟩ := o.xf _ _ hx
          have hvis : PE X (.Name n pn) (fun σ H Q => σ[j]? = some (some (.ref ad)) ∧ Q (.ref ad) H) :=
            peImp (pe_var hn (.inl hloc) (okNm_of hnm).1 (okNm_of hnm).2.1) fun σ H Q q => ⟨_, q.1, q.2⟩
          refine peImp (hfld i C _ _ pos hC hXf hno hvis rfl) fun σ H Q q => ?_
          obtain ⟨m, e, h, rh, re, p⟩ := q
          obtain ⟨e1, e2⟩ := re.exc j ad y dd hxs
          have hne : y.fs ≠ [] := fun z => by rw [z] at ed; cases ed
          obtain ⟨dx, vs, e3, e4, pf⟩ := e2.2 hne
          obtain ⟨v, e5, r5⟩ := look_rdX hi pf ed
          exact ⟨e1, rfl, hC, dx, vs, v, e3, e4, e5, p.here rh r5⟩
        · exact e_K
      · exact e_K
    · split
      · rename_i hb
        exact s_fld (hd.E X g cv fn xs W o tk oe) (base_of hb)
      · exact e_K
  · split
    · rename_i c id n dv hl
      split
      · rename_i hc
        obtain ⟨hc, hn, hb⟩ := hc
        obtain ⟨cm, hxs, k, hr, _, fns⟩ := o.calm hc
        subst hxs
        obtain ⟨C, gm, fd, ps, dvs, h1, h2, h3, h4, h5, h6⟩ := fns.mts f _ hl _ (List.mem_singleton.mpr rfl)
        have hn : n = 0 := hn
        subst hn
        obtain ⟨cl, p, hp⟩ := h2.prop rfl
        have hlen : dv.length = dvs.length := (h5 (fun _ => 0) 0 (fun _ => none)).length
        obtain ⟨ws, hv, hbd⟩ := h6 dv.length (Nat.le_refl _)
        have hw : ws = [] := by
          have e : dvs.drop dv.length = [] := by rw [hlen]; exact List.drop_length
          have := hv.length
          rw [e] at this
          exact List.length_eq_zero_iff.mp this.symm
        subst hw
        exact s_prop (hd.E X g cv fn none W o tk oe) h1 cl hp h4 hr hbd (base_of hb)
      · exact e_K
    · exact e_K
theorem set_of {e : Expr} {env : Env} (h : isSet e = false) : ∀ x, foldedSetIterable e env x = pure x := by
  intro x
  cases e <;> first | rfl | cases h
theorem d_I {tg : Expr} (hd : Sd d) (o : XOk X g cv fn xs) (tk : Takes X W) : ∀ (e : Expr), PI X tg e (PI_ (FX X cv fn xs) W (denI d g tg e)) := by
  intro e
  unfold denI
  split
  · rename_i x p args pos
    split
    · rename_i hg
      obtain ⟨gl, ok, nm, _⟩ := glob_of o hg
      split
      · rename_i a
        split
        · exact i_K
        · rename_i hs
          have hs : isStar a = false := by simpa using hs
          have h1 : starEach [a] X.env = [(false, eval a X.env)] := by rw [star_of hs]; rfl
          split
          · rename_i z; cases beqs z; exact i_range1 gl ok (hd.E X g cv fn xs W o tk a) h1
          · split
            · rename_i z; cases beqs z; exact i_rev gl ok (hd.E X g cv fn xs W o tk a) h1
            · split
              · rename_i z
                obtain ⟨z, zt⟩ := z
                cases beqs z
                cases tg <;> first | exact i_enum gl ok (hd.E X g cv fn xs W o tk a) h1 | cases zt
              · split
                · exact i_seq (hd.E X g cv fn xs W o tk _)
                · exact i_K
      · rename_i a b
        split
        · exact i_K
        · rename_i hs
          have hs : isStar a = false ∧ isStar b = false := by
            refine ⟨?_, ?_⟩
            · cases q : isStar a with
              | false => rfl
              | true => exact absurd (.inl q) hs
            · cases q : isStar b with
              | false => rfl
              | true => exact absurd (.inr q) hs
          have h2 : starEach [b] X.env = [(false, eval b X.env)] := by rw [star_of hs.2]; rfl
          have h1 : starEach [a, b] X.env = [(false, eval a X.env), (false, eval b X.env)] := by rw [star_of hs.1, h2]
          split
          · rename_i z; cases beqs z; exact i_range2 gl ok (hd.E X g cv fn xs W o tk a) (hd.E X g cv fn xs W o tk b) h1 h2
          · split
            · rename_i z
              obtain ⟨z, zt⟩ := z
              cases beqs z
              cases tg <;> first | exact i_zip gl ok (hd.E X g cv fn xs W o tk a) (hd.E X g cv fn xs W o tk b) h1 h2 (plain_of (by simp [hs.2])) | cases zt
            · exact i_K
      · exact i_K
    · exact i_seq (hd.E X g cv fn xs W o tk _)
  · split
    · exact i_K
    · exact i_seq (hd.E X g cv fn xs W o tk e)
def StOk (X : Cx) (g : G) (S : Nat → Prop) : Prop := ∀ x i, g.sto x = some i → S i → X.N[i]? = some x ∧ Loc X.env.scope x ∧ (X.fn x = true ∨ X.env.scope.names.lookup x = some .local)
theorem sto_of {x : Str} {i : Nat} (o : XOk X g cv fn xs) (h : g.sto x = some i) : X.N[i]? = some x ∧ Loc X.env.scope x ∧ Nx (FX X cv fn xs) i := by
  unfold G.sto at h
  split at h
  · rename_i hk
    split at h
    · rename_i j ej
      have hN := ix_of o ej
      have hl : Loc X.env.scope x := by
        unfold L2.Loc
        rw [o.sc]
        rw [Bool.or_eq_true] at hk
        rcases hk with hk | hk
        · exact .inl (by simpa using hk)
        · exact .inr (by simpa using hk)
      split at h
      · rename_i y n k hm
        split at h
        · cases h
        · rename_i hne
          cases h
          obtain ⟨_, _, _, a, dd, hx, _⟩ := o.suite _ _ _ hm
          exact ⟨hN, hl, fun j' a' z => by
            have z' : xs = some (j', a') := z
            rw [hx] at z'
            cases z'
            exact fun q => hne q.symm⟩
      · rename_i hm
        cases h
        refine ⟨hN, hl, fun j' a' z => ?_⟩
        have z' : xs = some (j', a') := z
        exfalso
        cases hmd : g.md with
        | body => have := (o.calm (by unfold G.calm; rw [hmd])).2.1; rw [z'] at this; cases this
        | blk => have := (o.calm (by unfold G.calm; rw [hmd])).2.1; rw [z'] at this; cases this
        | suite y n => cases n with
          | none => have := o.suiteN y hmd; rw [z'] at this; cases this
          | some q => obtain ⟨q1, q2⟩ := q; exact hm _ _ _ hmd
    · cases h
  · cases h
theorem stOk_of (o : XOk X g cv fn xs) (hm : g.md ≠ .blk) : StOk X g (fun _ => True) := fun x i h _ => ⟨(sto_of o h).1, (sto_of o h).2.1, .inl (o.fnT hm x)⟩
theorem stos_of {S : Nat → Prop} (st : StOk X g S) : ∀ {es : List Expr} {is : List Nat}, g.stos es = some is → (∀ i ∈ is, S i) → Paired (nmOk X) es is
  | [], is, h, _ => by cases h; exact .nil
  | e :: es, is, h, hS => by
    cases e with
    | Name x p =>
      change (match g.sto x, g.stos es with | some i, some is => some (i :: is) | _, _ => none) = some is at h
      split at h
      · rename_i i is' h1 h2
        cases h
        exact .cons (st x i h1 (hS i (by simp))) (stos_of st h2 fun j hj => hS j (by simp [hj]))
      · cases h
    | _ => cases h
theorem tgs_of {S : Nat → Prop} (o : XOk X g cv fn xs) (st : StOk X g S) (hc : X.calm = true) (hx : xs = none) : ∀ {es : List Expr} {p : List Nat × List Tg}, g.tgs es = some p → (∀ i ∈ p.1, S i) → TgOk X (FX X cv fn xs) es p.1 p.2
  | [], p, h, _ => by cases h; exact .nil
  | e :: es, p, h, hS => by
    cases e with
    | Name x ps =>
      change (match g.sto x, g.tgs es with | some i, some p => some ([i] ++ p.1, gN i :: p.2) | _, _ => none) = some p at h
      split at h
      · rename_i i p' h1 h2
        cases h
        obtain ⟨q1, q2, q3⟩ := st x i h1 (hS i (by simp))
        exact .cons rfl (g_n (sto_of o h1).2.2 o.nd q1 q2 q3) (tgs_of o st hc hx h2 fun j hj => hS j (List.mem_append_right _ hj))
      · cases h
    | Tuple ts kk ps =>
      change (match g.stos ts, g.tgs es with | some is, some p => some (is ++ p.1, gT is :: p.2) | _, _ => none) = some p at h
      split at h
      · rename_i is p' h1 h2
        cases h
        exact .cons rfl (g_t hx hc o.nd (stos_of st h1 fun j hj => hS j (List.mem_append_left _ hj))) (tgs_of o st hc hx h2 fun j hj => hS j (List.mem_append_right _ hj))
      · cases h
    | _ => cases h
theorem d_tg {S : Nat → Prop} {tg : Expr} {is : List Nat} {t : Tg} (o : XOk X g cv fn xs) (st : StOk X g S) (h : g.tg tg = some (is, t)) (hS : ∀ i ∈ is, S i) : PG X tg (PG_ (FX X cv fn xs) is t) := by
  unfold G.tg at h
  split at h
  · rename_i x p
    obtain ⟨i, e, q⟩ := Option.map_eq_some_iff.mp h
    cases q
    obtain ⟨h1, h2, h3⟩ := st x i e (hS i (by simp))
    exact g_n (sto_of o e).2.2 o.nd h1 h2 h3
  · split at h
    · rename_i hc
      obtain ⟨hc1, hx, _⟩ := o.calm hc
      split at h
      · obtain ⟨js, e, q⟩ := Option.map_eq_some_iff.mp h
        cases q
        exact g_t hx hc1 o.nd (stos_of st e hS)
      · obtain ⟨p, e, q⟩ := Option.map_eq_some_iff.mp h
        cases q
        exact g_tm hc1 (tgs_of o st hc1 hx e hS)
    · cases h
  · cases h
theorem XOk.blk {s : Shared} {H : Hp} {scope : Scope} {C : Addr} {cl : List (Str × Addr)} {fp : List Addr} (o : XOk X g cv fn xs) (hc : g.calm = true) :
    XOk (X.blk s H scope (compEnvC scope cl C X.env) fp) { g with sc := relS scope g.sc, md := .blk } cv fn xs := by
  refine ⟨o.N, o.nd, ?_, o.hu, fun z => absurd rfl z, fun _ => o.calm hc, o.gl, o.sub, o.isi, fun z => (by cases z), o.na, o.xf, fun _ _ _ z => (by cases z), fun _ z => (by cases z), o.dig⟩
  show relS scope X.env.scope = relS scope g.sc
  rw [o.sc]
theorem d_Ts (hd : Sd d) (o : XOk X g cv fn xs) (tk : Takes X W) : ∀ (ifs : List Expr), PTs X ifs (PT_ (FX X cv fn xs) W (denTs d g ifs))
  | [] => ⟨fun pins s σ H Q I q => by
    obtain ⟨m, e, h, rh, re, p⟩ := q
    exact pts_nil.run pins s σ H Q I (p.here rh rfl)⟩
  | [c] => pts_one (hd.T X g cv fn xs W o tk c)
  | _ :: _ :: _ => ⟨fun pins s σ H Q I q => by
    obtain ⟨m, e, h, rh, re, p⟩ := q
    exact p.elim⟩
theorem own_mem {sc : Scope} {i : Nat} (h : i ∈ (ownOf g sc).map (·.2)) : ∃ y ∈ sc.names, g.ix y.1 = some i ∧ (y.2 = .local ∨ y.2 = .cell) := by
  obtain ⟨q, h1, h2⟩ := List.mem_map.mp h
  obtain ⟨y, h3, h4⟩ := List.mem_filterMap.mp h1
  split at h4
  · rename_i hk
    obtain ⟨j, e1, e2⟩ := Option.map_eq_some_iff.mp h4
    cases e2
    subst h2
    exact ⟨y, h3, e1, .inl hk⟩
  · rename_i hk
    obtain ⟨j, e1, e2⟩ := Option.map_eq_some_iff.mp h4
    cases e2
    subst h2
    exact ⟨y, h3, e1, .inr hk⟩
  · cases h4
theorem blk_st {s : Shared} {H : Hp} {scope : Scope} {C : Addr} {cl : List (Str × Addr)} {fp : List Addr} (o : XOk X g cv fn xs) (hc : g.calm = true) (ok : BlkOk X.N X.env.scope scope (ownOf g scope)) :
    StOk (X.blk s H scope (compEnvC scope cl C X.env) fp) { g with sc := relS scope g.sc, md := .blk } (fun i => i ∈ (ownOf g scope).map (·.2)) := fun x i h hi => by
  have o' := XOk.blk (s := s) (H := H) (scope := scope) (C := C) (cl := cl) (fp := fp) o hc
  obtain ⟨h1, h2, _⟩ := sto_of o' h
  refine ⟨h1, h2, ?_⟩
  obtain ⟨y, hy, e1, hk⟩ := own_mem hi
  have e2 := ix_of o e1
  have e3 : some x = some y.1 := h1.symm.trans e2
  cases e3
  have u := ok.uniq y hy
  rcases hk with hk | hk
  · right
    show (relS scope X.env.scope).names.lookup y.1 = some .local
    rw [hk] at u
    exact lookup_relS_keep (by decide) u
  · left
    show (scope.names.lookup y.1 == some .cell) = true
    rw [u, hk]
    rfl
end
end Mn
namespace Mn
open PySem L2
section
variable {X : Cx} {g : G} {cv : Nat → Value} {fn : Nat → Str} {xs : Xs} {W : WX} {pos : Pos} {d : DD}
theorem allMem {own : List Nat} {is : List Nat} (h : is.all (fun i => decide (i ∈ own)) = true) : ∀ i ∈ is, i ∈ own := fun i hi => of_decide_eq_true (List.all_eq_true.mp h i hi)
structure Lc2P (X : Cx) (g : G) (cv : Nat → Value) (fn : Nat → Str) (xs : Xs) (d : DD) (sc : Scope) (tg tg1 it1 el : Expr) (ifs ifs1 : List Expr) (is is1 : List Nat) (t t1 : Tg) : Prop where
  ok : BlkOk X.N X.env.scope sc (ownOf g sc)
  hg : ∀ (s : Shared) (H : Hp) (C : Addr) (cl : List (Str × Addr)) (fp : List Addr), PG (X.blk s H sc (compEnvC sc cl C X.env) fp) tg (PG_ (FX X cv fn xs) is t)
  hg1 : ∀ (s : Shared) (H : Hp) (C : Addr) (cl : List (Str × Addr)) (fp : List Addr), PG (X.blk s H sc (compEnvC sc cl C X.env) fp) tg1 (PG_ (FX X cv fn xs) is1 t1)
  ht : ∀ (s : Shared) (H : Hp) (C : Addr) (cl : List (Str × Addr)) (fp : List Addr), PTs (X.blk s H sc (compEnvC sc cl C X.env) fp) ifs (PT_ (FX X cv fn xs) noW (denTs d { g with sc := relS sc g.sc, md := .blk } ifs))
  ht1 : ∀ (s : Shared) (H : Hp) (C : Addr) (cl : List (Str × Addr)) (fp : List Addr), PTs (X.blk s H sc (compEnvC sc cl C X.env) fp) ifs1 (PT_ (FX X cv fn xs) noW (denTs d { g with sc := relS sc g.sc, md := .blk } ifs1))
  hi1 : ∀ (s : Shared) (H : Hp) (C : Addr) (cl : List (Str × Addr)) (fp : List Addr), PI (X.blk s H sc (compEnvC sc cl C X.env) fp) tg1 it1 (PI_ (FX X cv fn xs) noW (denI d { g with sc := relS sc g.sc, md := .blk } tg1 it1))
  he : ∀ (s : Shared) (H : Hp) (C : Addr) (cl : List (Str × Addr)) (fp : List Addr), PE (X.blk s H sc (compEnvC sc cl C X.env) fp) el (PE_ (FX X cv fn xs) noW (d.E { g with sc := relS sc g.sc, md := .blk } el))
theorem lc2_parts {sc : Scope} {tg tg1 it1 el : Expr} {ifs ifs1 : List Expr} {is is1 : List Nat} {t t1 : Tg} (hd : Sd d) (o : XOk X g cv fn xs) (h1 : g.calm = true) (h2 : blkC g.N g.sc sc (ownOf g sc) = true)
    (h3 : is.all (fun i => decide (i ∈ (ownOf g sc).map (·.2))) = true) (h3' : is1.all (fun i => decide (i ∈ (ownOf g sc).map (·.2))) = true)
    (et : ({ g with sc := relS sc g.sc, md := .blk } : G).tg tg = some (is, t)) (et1 : ({ g with sc := relS sc g.sc, md := .blk } : G).tg tg1 = some (is1, t1)) : Lc2P X g cv fn xs d sc tg tg1 it1 el ifs ifs1 is is1 t t1 := by
  have ok : BlkOk X.N X.env.scope sc (ownOf g sc) := blkOk_by (by rw [o.N, o.sc]; exact h2)
  exact ⟨ok, fun s H C cl fp => d_tg (X := X.blk s H sc (compEnvC sc cl C X.env) fp) (XOk.blk o h1) (blk_st o h1 ok) et (allMem h3),
    fun s H C cl fp => d_tg (X := X.blk s H sc (compEnvC sc cl C X.env) fp) (XOk.blk o h1) (blk_st o h1 ok) et1 (allMem h3'),
    fun s H C cl fp => d_Ts (X := X.blk s H sc (compEnvC sc cl C X.env) fp) hd (XOk.blk o h1) takes0 ifs,
    fun s H C cl fp => d_Ts (X := X.blk s H sc (compEnvC sc cl C X.env) fp) hd (XOk.blk o h1) takes0 ifs1,
    fun s H C cl fp => d_I (X := X.blk s H sc (compEnvC sc cl C X.env) fp) hd (XOk.blk o h1) takes0 it1,
    fun s H C cl fp => hd.E (X.blk s H sc (compEnvC sc cl C X.env) fp) _ cv fn xs _ (XOk.blk o h1) takes0 el⟩
theorem d_O (hd : Sd d) (o : XOk X g cv fn xs) (tk : Takes X W) : ∀ (e : Option Expr), L2.PO X e (OO_ (FX X cv fn xs) W (denO d g e))
  | none => s_oN
  | some e => s_oS (hd.E X g cv fn xs W o tk e)
theorem d_Lc {el : Expr} {gs : List Comprehension} {sc : Scope} (hd : Sd d) (o : XOk X g cv fn xs) (tk : Takes X W) : PE X (.ListComp el gs sc pos) (PE_ (FX X cv fn xs) W (denLc d g el gs sc)) := by
  unfold denLc
  split
  · rename_i tg it ifs
    dsimp only
    split
    · rename_i is t et
      split
      · rename_i hc
        obtain ⟨h1, h2, h3, h4⟩ := hc
        have ok : BlkOk X.N X.env.scope sc (ownOf g sc) := blkOk_by (by rw [o.N, o.sc]; exact h2)
        obtain ⟨hc1, hx, _⟩ := o.calm h1
        have hi : PI X tg it (PI_ (FX X cv fn xs) W (denI d g tg it)) := d_I hd o tk it
        have hg : ∀ (s : Shared) (H : Hp) (C : Addr) (cl : List (Str × Addr)) (fp : List Addr), PG (X.blk s H sc (compEnvC sc cl C X.env) fp) tg (PG_ (FX X cv fn xs) is t) := fun s H C cl fp => d_tg (X := X.blk s H sc (compEnvC sc cl C X.env) fp) (XOk.blk o h1) (blk_st o h1 ok) et (allMem h3)
        have ht : ∀ (s : Shared) (H : Hp) (C : Addr) (cl : List (Str × Addr)) (fp : List Addr), PTs (X.blk s H sc (compEnvC sc cl C X.env) fp) ifs (PT_ (FX X cv fn xs) (fun _ _ _ _ => False) (denTs d { g with sc := relS sc g.sc, md := .blk } ifs)) := fun s H C cl fp => d_Ts (X := X.blk s H sc (compEnvC sc cl C X.env) fp) hd (XOk.blk o h1) takes0 ifs
        have he : ∀ (s : Shared) (H : Hp) (C : Addr) (cl : List (Str × Addr)) (fp : List Addr), PE (X.blk s H sc (compEnvC sc cl C X.env) fp) el (PE_ (FX X cv fn xs) (fun _ _ _ _ => False) (d.E { g with sc := relS sc g.sc, md := .blk } el)) := fun s H C cl fp => hd.E (X.blk s H sc (compEnvC sc cl C X.env) fp) _ cv fn xs _ (XOk.blk o h1) takes0 el
        exact peImp (pe_lc hc1 o.nd hi ok hg ht he (set_of h4)) fun σ H Q q => s_lc hx hc1 o.nd hi ok hg ht he (allMem h3) (set_of h4) q
      · exact e_K
    · exact e_K
  · rename_i tg it ifs tg1 it1 ifs1
    dsimp only
    split
    · rename_i is t is1 t1 et et1
      split
      · rename_i hc
        obtain ⟨h1, h2, h3, h3', h4, h4'⟩ := hc
        obtain ⟨ok, hg, hg1, ht, ht1, hi1, he⟩ := lc2_parts (is := is) (t := t) (is1 := is1) (t1 := t1) (el := el) (ifs := ifs) (ifs1 := ifs1) (it1 := it1) hd o h1 h2 h3 h3' et et1
        obtain ⟨hc1, hx, _⟩ := o.calm h1
        have hi : PI X tg it (PI_ (FX X cv fn xs) W (denI d g tg it)) := d_I hd o tk it
        exact peImp (pe_lc2 hc1 o.nd hi ok (allMem h3') hg ht hi1 hg1 ht1 he (set_of h4) (fun env x => set_of h4' x)) fun σ H Q q => s_lc2 (it := it) (it1 := it1) (el := el) (ifs := ifs) (ifs1 := ifs1) (scope := sc) hx (allMem h3) q
      · exact e_K
    · exact e_K
  · exact e_K
theorem s_notT {a : Expr} {fa : ED} (ha : PE X a (PE_ (FX X cv fn xs) W fa)) : PE X (.UnaryOp .Not a pos) (PE_ (FX X cv fn xs) W (dNotT fa)) :=
  peImp (pe_notT ha) fun σ H Q q => by
    obtain ⟨m, e, h, rh, re, p⟩ := q
    refine ⟨m, e, h, rh, re, p.bind fun x h1 m1 H1 xv g1 rh1 rx p1 => ?_⟩
    split at p1
    · rename_i k ek
      exact ⟨k, truth_rd rh1 rx ek, p1.here rh1 (.bl _)⟩
    · exact p1.elim
theorem s_andT {a b : Expr} {rest : List Expr} {fa fb : ED} (ha : PE X a (PE_ (FX X cv fn xs) W fa)) (hb : PE X (.BoolOp .And (b :: rest) pos) (PE_ (FX X cv fn xs) W fb)) : PE X (.BoolOp .And (a :: b :: rest) pos) (PE_ (FX X cv fn xs) W (dAndT fa fb)) :=
  peImp (pe_andT ha hb) fun σ H Q q => by
    obtain ⟨m, e, h, rh, re, p⟩ := q
    refine ⟨m, e, h, rh, re, p.bind fun x h1 m1 H1 xv g1 rh1 rx p1 => ?_⟩
    split at p1
    · rename_i k ek
      refine ⟨k, truth_rd rh1 rx ek, ?_⟩
      cases k with
      | true => rw [if_pos rfl] at p1 ⊢; exact ⟨m1, e, h1, rh1, g1.re re, p1⟩
      | false => rw [if_neg Bool.false_ne_true] at p1 ⊢; exact p1.here rh1 rx
    · exact p1.elim
theorem s_orT {a b : Expr} {rest : List Expr} {fa fb : ED} (ha : PE X a (PE_ (FX X cv fn xs) W fa)) (hb : PE X (.BoolOp .Or (b :: rest) pos) (PE_ (FX X cv fn xs) W fb)) : PE X (.BoolOp .Or (a :: b :: rest) pos) (PE_ (FX X cv fn xs) W (dOrT fa fb)) :=
  peImp (pe_orT ha hb) fun σ H Q q => by
    obtain ⟨m, e, h, rh, re, p⟩ := q
    refine ⟨m, e, h, rh, re, p.bind fun x h1 m1 H1 xv g1 rh1 rx p1 => ?_⟩
    split at p1
    · rename_i k ek
      refine ⟨k, truth_rd rh1 rx ek, ?_⟩
      cases k with
      | true => rw [if_pos rfl] at p1 ⊢; exact p1.here rh1 rx
      | false => rw [if_neg Bool.false_ne_true] at p1 ⊢; exact ⟨m1, e, h1, rh1, g1.re re, p1⟩
    · exact p1.elim
theorem d_BoE (hd : Sd d) (o : XOk X g cv fn xs) (tk : Takes X W) (op : BoolOp) : ∀ (es : List Expr), PE X (.BoolOp op es pos) (PE_ (FX X cv fn xs) W (denBoE d g op es))
  | [] => e_K
  | [a] => pe_one (hd.E X g cv fn xs W o tk a)
  | a :: b :: r => by
    cases op with
    | And => exact s_andT (hd.E X g cv fn xs W o tk a) (d_BoE hd o tk .And (b :: r))
    | Or => exact s_orT (hd.E X g cv fn xs W o tk a) (d_BoE hd o tk .Or (b :: r))
theorem w_K {e : Expr} : PW X e (PT_ (FX X cv fn xs) W tK) := ⟨fun _ _ _ _ _ _ _ ⟨_, _, _, _, _, p⟩ => p.elim⟩
theorem d_BoT (hd : Sd d) (o : XOk X g cv fn xs) (tk : Takes X W) (op : BoolOp) : ∀ (es : List Expr), PW X (.BoolOp op es pos) (PT_ (FX X cv fn xs) W (denBoT d g op es))
  | [] => w_K
  | [a] => by
    cases op with
    | And => exact pw_and1 (hd.T X g cv fn xs W o tk a)
    | Or => exact pw_or1 (hd.T X g cv fn xs W o tk a)
  | a :: b :: r => by
    cases op with
    | And => exact sw_and (hd.T X g cv fn xs W o tk a) (d_BoT hd o tk .And (b :: r))
    | Or => exact sw_or (hd.T X g cv fn xs W o tk a) (d_BoT hd o tk .Or (b :: r))
theorem bfalse {b : Bool} (h : ¬ b = true) : b = false := by cases b <;> simp_all
theorem d_Ix {a b : Expr} (hd : Sd d) (o : XOk X g cv fn xs) (tk : Takes X W) (hs : isSlice b = false) : PE X (.Subscript a b pos) (PE_ (FX X cv fn xs) W (denIx d g a b)) := by
  unfold denIx
  split
  · split
    · rename_i kvs i e1 e2
      split
      · rename_i hc
        rw [Bool.and_eq_true, Bool.and_eq_true] at hc
        obtain ⟨n1, n2, n3⟩ := okNm_of hc.1.2
        exact s_dsp o.hu e1 hc.1.1 pe_int (ixp_of rfl) (ix_of o e2) (own_of o hc.2) n1 n2
      · exact e_K
    · exact e_K
  · exact s_ix (hd.E X g cv fn xs W o tk _) (hd.E X g cv fn xs W o tk _) (ixp_of hs)
theorem d_E (hd : Sd d) (o : XOk X g cv fn xs) (tk : Takes X W) : ∀ (e : Expr), PE X e (PE_ (FX X cv fn xs) W (stepE d g e)) := by
  intro e
  unfold stepE
  split
  · rename_i x p
    split
    · rename_i hn
      obtain ⟨n1, n2, n3⟩ := okNm_of hn
      split
      · rename_i hv
        split
        · exact e_K
        · split
          · rename_i i ei
            exact s_v (ix_of o ei) (own_of o hv) n1 n2
          · exact e_K
      · split
        · rename_i v ev
          obtain ⟨gl, ⟨u, w, h1, h2, h3⟩, _, _⟩ := glob_of o ev
          exact s_c (pe_glob gl h1 h2 n1) h3
        · exact e_K
    · exact e_K
  · exact s_c pe_non fun _ _ _ => .non
  · exact s_c pe_bl fun _ _ _ => .bl _
  · exact s_c pe_int fun _ _ _ => .int _
  · exact s_c pe_str fun _ _ _ => .str _
  · exact s_bin (hd.E X g cv fn xs W o tk _) (hd.E X g cv fn xs W o tk _)
  · exact s_notT (hd.E X g cv fn xs W o tk _)
  · exact s_un (hd.E X g cv fn xs W o tk _)
  · exact d_BoE hd o tk _ _
  · split
    · exact e_K
    · rename_i hb
      exact s_cmp o.hu (hd.E X g cv fn xs W o tk _) (hd.E X g cv fn xs W o tk _) (bfalse hb)
  · split
    · exact e_K
    · rename_i hb
      exact s_chain o.hu (hd.E X g cv fn xs W o tk _) (hd.E X g cv fn xs W o tk _) (hd.E X g cv fn xs W o tk _) (bfalse hb)
  · exact s_if (hd.T X g cv fn xs W o tk _) (hd.E X g cv fn xs W o tk _) (hd.E X g cv fn xs W o tk _)
  · exact d_C hd o tk
  · exact d_K hd o tk
  · exact d_M hd o tk
  · exact d_F hd o tk
  · exact s_sl (hd.E X g cv fn xs W o tk _) (d_O hd o tk _) (d_O hd o tk _)
  · split
    · exact e_K
    · rename_i hs
      exact d_Ix hd o tk (bfalse hs)
  · split
    · exact e_K
    · rename_i hs
      exact s_tup (d_A hd o tk _ (bfalse hs))
  · split
    · exact e_K
    · rename_i hs
      exact s_lst (d_A hd o tk _ (bfalse hs))
  · exact d_Lc hd o tk
  · exact e_K
theorem d_T (hd : Sd d) (o : XOk X g cv fn xs) (tk : Takes X W) : ∀ (e : Expr), PT X e (PT_ (FX X cv fn xs) W (stepT d g e)) := by
  intro e
  unfold stepT
  split
  · exact st_not (hd.T X g cv fn xs W o tk _)
  · exact (d_BoT hd o tk _ _).pt
  · split
    · exact t_K
    · rename_i hb
      exact st_cmp o.hu (hd.E X g cv fn xs W o tk _) (hd.E X g cv fn xs W o tk _) (bfalse hb)
  · split
    · exact t_K
    · rename_i hb
      exact st_chain o.hu (hd.E X g cv fn xs W o tk _) (hd.E X g cv fn xs W o tk _) (hd.E X g cv fn xs W o tk _) (bfalse hb)
  · split
    · rename_i hp
      refine st_true (hd.E X g cv fn xs W o tk e) ?_
      intro whole
      cases e <;> first | rfl | cases hp
    · exact t_K
theorem d_Ss (hd : Sd d) (o : XOk X g cv fn xs) (tk : Takes X W) (hp : PassesOwn (model X.prog X.w) X.A X.env X.xe) (hm : g.md ≠ .blk) : ∀ (ss : List Stmt), PSs X ss (PS_ (FX X cv fn xs) W (denSs d g ss))
  | [] => s_nil
  | [s] => s_one (hd.S X g cv fn xs W o tk hp hm s)
  | s :: t :: r => s_cons (hd.S X g cv fn xs W o tk hp hm s) (d_Ss hd o tk hp hm (t :: r))
theorem d_G (hd : Sd d) (o : XOk X g cv fn xs) (tk : Takes X W) (hm : g.md ≠ .blk) : ∀ (e : Expr), PG X e (PGD_ (FX X cv fn xs) W (denG d g e)) := by
  intro e
  unfold denG
  split
  · rename_i a i p
    split
    · exact g_K
    · rename_i hs
      refine g_ix (hd.E X g cv fn xs W o tk _) (hd.E X g cv fn xs W o tk _) ?_
      intro v
      cases i <;> first | rfl | exact absurd rfl hs
  · split
    · rename_i is t et
      exact g_of (d_tg o (stOk_of o hm) et fun _ _ => trivial)
    · exact g_K
theorem sw_none {e : Expr} {t : Option Expr} {l : Nat} {env : Env} (h : isLc e = false) : swapsWith e t l env = pure false := by
  cases e <;> first | rfl | cases h
theorem o_iop (op : Operator) : PIp X op (r2 (FX X cv fn xs) (iop op)) := by
  intro pins s σ0 H x y v u Q I rx ry hh
  obtain ⟨W, σ, m, h, d1, d2, rh, ra, rb, p⟩ := hh
  unfold iop at p
  split at p
  · cases ra; cases rb; exact ip_add pins s σ0 H _ _ v u Q I rx ry ⟨_, _, rfl, rfl, p.here rh (.int _)⟩
  · cases ra; cases rb; exact ip_sub pins s σ0 H _ _ v u Q I rx ry ⟨_, _, rfl, rfl, p.here rh (.int _)⟩
  · cases ra; cases rb
    split at p
    · rename_i i j hz
      obtain ⟨t, rfl⟩ := rx
      obtain ⟨t', rfl⟩ := ry
      refine PyProof.Rows.imul_int ⟨.int _, H, I.tok _, ⟨_, rfl⟩, p.here rh (.int _)⟩ ?_
      have b : ∀ x : Int, Builtin.Int.intBits x ≤ x.natAbs.log2 + 1 := fun x => by
        unfold Builtin.Int.intBits
        split <;> omega
      have h1 := b i
      have h2 := b j
      have e : bitsLine = 134217728 := by decide
      intro z
      rw [Bool.and_eq_true] at z
      have z2 := z.2
      unfold Builtin.Int.intTooBig at z2
      have z3 := of_decide_eq_true z2
      rw [e] at z3
      have hz' : i.natAbs.log2 + j.natAbs.log2 < 100000000 := hz
      omega
    · exact p.elim
  · cases ra; cases rb
    split at p
    · rename_i hz
      exact iop_add_str pins s σ0 H _ _ v u Q I rx ry ⟨_, _, rfl, rfl, by rw [sizeLine_eq]; exact hz, p.here rh (.str _)⟩
    · exact p.elim
  · exact p.elim
theorem d_Aug {x : Str} {op : Operator} {e : Expr} {p : Pos} (hd : Sd d) (o : XOk X g cv fn xs) (tk : Takes X W) (hm : g.md ≠ .blk) : PS X (.AugAssign (.Name x p) op e pos) (PS_ (FX X cv fn xs) W (denAug g d x op e)) := by
  unfold denAug
  split
  · rename_i i ei
    obtain ⟨h1, h2, h3⟩ := stOk_of o hm x i ei trivial
    have nx := (sto_of o ei).2.2
    refine psImp (ps_aug o.nd h1 h2 (hd.E X g cv fn xs W o tk e) (o_iop (cv := cv) (fn := fn) (xs := xs) op) h3) fun D σ H q => ?_
    obtain ⟨m, ev, h, rh, re, p⟩ := q
    unfold dV at p
    dsimp only at p
    split at p
    · rename_i v hv
      obtain ⟨w, e1, r1⟩ := re.at_ i v hv
      refine ⟨w, e1, m, ev, h, rh, re, PO.toS (r := d.E g e ev h) re p fun y h2 m2 H2 yv g2 rh2 ry p2 => ?_⟩
      exact ⟨W, σ, m2, h2, v, y, rh2, g2.rd r1, ry, PO.toS (g2.re re) p2 fun z h3 m3 H3 zv g3 rh3 rz p3 => p3 m3 H3 _ Ge.refl rh3 ((g3.re (g2.re re)).set i nx rz)⟩
    · exact p.elim
  · exact s_K
end
end Mn
namespace Mn
open PySem L2
section
variable {X : Cx} {g : G} {cv : Nat → Value} {fn : Nat → Str} {xs : Xs} {W : WX} {pos : Pos} {d : DD} {f : SD}
theorem s_tryN {body suite : List Stmt} {b₀ : Stmt} {x : Str} {np pos' : Pos} {sub : Nat → Nat → Option Bool} {hd : Nat} {fs : Xc → SD} (hx : xs = none) (hs : X.stack = X.env :: X.outer) (hf : X.env.frame = some X.env.locals)
    (hc : Names X x (cv hd)) (tk : Takes X W) (hsub : ∀ c1 c2 b, sub c1 c2 = some b → PySem.W.exmOne X.K (cv c1) (cv c2) = some b)
    (hb : ∀ (W : WX) (pn : List (Addr × Obj)) (xe : Value → Shared → Prop), Takes (X.tr pn xe) W → PassesOwn (model X.prog X.w) X.A X.env xe → PSs (X.tr pn xe) body (PS_ (FX X cv fn xs) W f))
    (hsu : ∀ (a : Addr) (oe : Obj) (x : Xc) (pn : List (Addr × Obj)), PSs (X.suite a ((a, oe) :: pn)) (b₀ :: suite) (PS_ (FX X cv fn none) (fun _ _ _ _ => False) (fs x))) :
    PS X (.Try body [.ExceptHandler (some (.Name x np)) none (b₀ :: suite) pos'] [] [] pos) (PS_ (FX X cv fn xs) W (sTry sub f ⟨hd, none, fs⟩)) := by
  subst hx
  refine psImp (ps_try_only (ts := fun a cls d D σ H => ∃ y : Xc, PS_ (FX X cv fn none) (fun _ _ _ _ => False) (fs y) D σ H) hs hf hc tk hb
    fun a oe cls d pn hz hfl => ⟨fun pins s σ H D I q => ?_⟩) fun D σ H q => ?_
  · obtain ⟨y, q⟩ := q
    exact (hsu a oe y pn).run pins s σ H D I q
  · obtain ⟨m, e, h, rh, re, p⟩ := q
    refine ⟨m, e, h, rh, re, ?_⟩
    unfold sTry at p
    cases qf : f e h with
    | stuck => rw [qf] at p; exact p
    | go fl e1 h1 => rw [qf] at p; exact p.flow
    | exc y e1 h1 =>
      rw [qf] at p
      intro m1 H1 σ1 cls dd g1 rh1 re1 rx
      simp only at p
      cases qs : sub y.cls hd with
      | none => rw [qs] at p; exact p.elim
      | some k =>
        rw [qs] at p
        obtain ⟨ec, rx'⟩ := rx
        refine ⟨k, by rw [ec]; exact hsub _ _ _ qs, fun ek ad had => ?_, fun ek => ?_⟩
        · subst ek
          simp only at p
          rw [if_pos (show slotOk e1 none = true from rfl)] at p
          refine ⟨y, m1, e1, h1, rh1, re1, ?_⟩
          have p1 := PSo.base p g1
          cases qg : fs y e1 h1 with
          | stuck => simp only [clr, qg] at p1; exact p1.elim
          | exc x e2 h2 => simp only [clr, qg] at p1; exact p1.elim
          | go fl e2 h2 => simp only [clr, qg] at p1; exact p1.flow
        · subst ek
          exact p m1 H1 σ1 cls dd g1 rh1 re1 ⟨ec, rx'⟩
theorem XOk.tr {pn : List (Addr × Obj)} {xe : Value → Shared → Prop} (o : XOk X g cv fn xs) (hm : g.md = .body) : XOk (X.tr pn xe) g cv fn xs :=
  ⟨o.N, o.nd, o.sc, o.hu, o.fnT, o.calm, o.gl, o.sub, o.isi, o.body, o.na, o.xf, fun y n i z => (by rw [hm] at z; cases z), o.suiteN, o.dig⟩
theorem names_of {x : Str} {p : Pos} {c : Nat} (o : XOk X g cv fn xs) (h : g.cid (.Name x p) = some c) : Names X x (cv c) := by
  unfold G.cid at h
  dsimp only at h
  split at h
  · rename_i c' hz
    cases h
    obtain ⟨gz, ⟨C, e1, e2, _⟩, nz, _⟩ := glob_of o hz
    exact ⟨gz, (okNm_of nz).1, .inl (by rw [e1]; exact e2)⟩
  · rename_i c' hz
    cases h
    obtain ⟨gz, ⟨C, e1, e2, e3⟩, nz, _⟩ := glob_of o hz
    exact ⟨gz, (okNm_of nz).1, .inr ⟨e2, by rw [e1]; exact e3, (okNm_of nz).2.2⟩⟩
  · rename_i c' fs hz
    cases h
    obtain ⟨gz, ⟨C, e1, e2, _⟩, nz, _⟩ := glob_of o hz
    exact ⟨gz, (okNm_of nz).1, .inl (by rw [e1]; exact e2)⟩
  · cases h
theorem XOk.suiteS {a : Addr} {oe : Obj} {pn : List (Addr × Obj)} {y : Xc} {n : Str} {i : Nat} {dx : Option Addr} (o : XOk X g cv fn xs) (hm : g.md = .body) (hi : g.ix n = some i) (hl : g.sc.names.lookup n = some .local) (hn : okNm n = true)
    (hz : Zc (cv y.cls) dx oe) (hf : ∃ vs, oe.data = .fields vs) : XOk (X.suite a ((a, oe) :: pn)) { g with md := .suite y (some (n, i)) } cv fn (some (i, a, y, dx)) := by
  have hm' : g.md ≠ .blk := fun z => by rw [hm] at z; cases z
  refine ⟨o.N, o.nd, o.sc, o.hu, fun _ => o.fnT hm', fun z => (by cases z), o.gl, o.sub, o.isi, fun z => (by cases z), o.na, o.xf, fun y' n' i' z => ?_, fun y' z => (by cases z), o.dig⟩
  cases z
  have hi' := ix_of o hi
  refine ⟨hi', by show X.env.scope.names.lookup n = _; rw [o.sc]; exact hl, hn, a, dx, rfl, fun c2 b hb => ?_, fun f C e te pos hC T hno he hb => ?_⟩
  · obtain ⟨h1, C, h2, h3⟩ := o.isi _ _ _ hb
    rw [h2] at hz
    have hc := isi_told (X := X) (pn := pn) (a := a) h3 hz hf
    intro pins s σ H vs us Q I r q
    obtain ⟨v, rfl, hd, hv, q⟩ := q
    exact hc pins s σ H _ us Q I r ⟨v, cv c2, b, rfl, hd, hv, by rw [h2] at h1; exact h1, q⟩
  · exact pe_xf T hno hz hf he hb
theorem XOk.suiteU {a : Addr} {oe : Obj} {pn : List (Addr × Obj)} {y : Xc} (o : XOk X g cv fn xs) (hm : g.md = .body) : XOk (X.suite a ((a, oe) :: pn)) { g with md := .suite y none } cv fn none := by
  have hm' : g.md ≠ .blk := fun z => by rw [hm] at z; cases z
  exact ⟨o.N, o.nd, o.sc, o.hu, fun _ => o.fnT hm', fun z => (by cases z), o.gl, o.sub, o.isi, fun z => (by cases z), o.na, o.xf, fun y' n' i' z => (by cases z), fun y' z => rfl, o.dig⟩
theorem d_Try {body : List Stmt} {hs : List ExceptHandler} {hdl : Hd} (hd : Sd d) (o : XOk X g cv fn xs) (tk : Takes X W) (hm : g.md = .body) (h : denH d g hs = some hdl) : PS X (.Try body hs [] [] pos) (PS_ (FX X cv fn xs) W (sTry g.sub (denSs d g body) hdl)) := by
  have hx : xs = none := (o.calm (by unfold G.calm; rw [hm])).2.1
  obtain ⟨hst, hfr⟩ := o.body hm
  unfold denH at h
  split at h
  · rename_i x np n b bs p
    split at h
    · rename_i c i ec ei
      split at h
      · rename_i hl
        cases h
        rw [Bool.and_eq_true] at hl
        have hl1 : g.sc.names.lookup n = some .local := by simpa using hl.1
        have hk : X.env.kindOf n = some .local := by unfold Env.kindOf; rw [o.sc]; exact hl1
        exact s_try hx hst hfr o.nd (ix_of o ei) hk (names_of o ec) tk o.sub (fun W pn xe tk' hp => d_Ss hd (XOk.tr o hm) tk' hp (fun z => by rw [hm] at z; cases z) body)
          fun a oe y dx pn hz hf hd' => d_Ss hd (XOk.suiteS o hm ei hl1 hl.2 hz hf) takes0 PassesOwn.never (fun z => by cases z) (b :: bs)
      · cases h
    · cases h
  · rename_i x np b bs p
    split at h
    · rename_i c ec
      cases h
      exact s_tryN hx hst hfr (names_of o ec) tk o.sub (fun W pn xe tk' hp => d_Ss hd (XOk.tr o hm) tk' hp (fun z => by rw [hm] at z; cases z) body)
        fun a oe y pn => d_Ss hd (XOk.suiteU o hm) takes0 PassesOwn.never (fun z => by cases z) (b :: bs)
    · cases h
  · cases h
theorem hdd_of (hd : Sd d) (o : XOk X g cv fn xs) (hm : g.md = .body) : ∀ {hs : List ExceptHandler} {hds : List Hd}, denHs d g hs = some hds → HdD X cv fn hs hds
  | [], _, h => by cases h; exact .nil
  | h0 :: hs, hds, h => by
    unfold denHs at h
    split at h
    · rename_i a r e1 e2
      cases h
      have ih := hdd_of hd o hm e2
      unfold denH at e1
      split at e1
      · rename_i x np n b bs p e0
        cases e0
        split at e1
        · rename_i c i ec ei
          split at e1
          · rename_i hl
            cases e1
            rw [Bool.and_eq_true] at hl
            have hl1 : g.sc.names.lookup n = some .local := by simpa using hl.1
            have hk : X.env.kindOf n = some .local := by unfold Env.kindOf; rw [o.sc]; exact hl1
            exact .as_ (ix_of o ei) hk (names_of o ec) (fun a oe y dx pn hz hf hd' => d_Ss hd (XOk.suiteS o hm ei hl1 hl.2 hz hf) takes0 PassesOwn.never (fun z => by cases z) (b :: bs)) ih
          · cases e1
        · cases e1
      · rename_i x np b bs p e0
        cases e0
        split at e1
        · rename_i c ec
          cases e1
          exact .one (names_of o ec) (fun a oe y pn => d_Ss hd (XOk.suiteU o hm) takes0 PassesOwn.never (fun z => by cases z) (b :: bs)) ih
        · cases e1
      · cases e1
    · cases h
theorem d_TryM {body : List Stmt} {h0 : ExceptHandler} {hs : List ExceptHandler} {hds : List Hd} (hd : Sd d) (o : XOk X g cv fn xs) (tk : Takes X W) (hm : g.md = .body) (h : denHs d g (h0 :: hs) = some hds) : PS X (.Try body (h0 :: hs) [] [] pos) (PS_ (FX X cv fn xs) W (sTryM g.sub (denSs d g body) hds)) := by
  have hx : xs = none := (o.calm (by unfold G.calm; rw [hm])).2.1
  obtain ⟨hst, hfr⟩ := o.body hm
  have hdd := hdd_of hd o hm h
  subst hx
  exact s_tries hst hfr o.nd tk o.sub (fun W pn xe tk' hp => d_Ss hd (XOk.tr o hm) tk' hp (fun z => by rw [hm] at z; cases z) body) hdd
theorem swap_fold {x y : Str} {px py pt pt2 : Pos} {kt k2 : Nat} {a b : Expr} {env : Env} (h : okFold a b = true) : swappedStores [.Tuple [.Name x px, .Name y py] kt pt] (.Tuple [a, b] k2 pt2) env = pure none := by
  have h' : ([a, b].all (foldedForSure 8)) = true := by
    unfold okFold at h
    rw [List.all_cons, List.all_cons, List.all_nil, Bool.and_true]
    exact h
  unfold swappedStores
  dsimp only
  rw [h']
  split
  · rfl
  · split
    · rfl
    · split
      · rfl
      · rfl
theorem sole_of {tg e : Expr} {l : Nat} {env : Env} (h : okAs tg e = true) : swapsWithSole [tg] e l env = pure false := by
  show swapsWith e (some tg) l env = pure false
  cases tg with
  | Name x p =>
    refine sw_none ?_
    have h' : (!isLc e) = true := h
    simpa using h'
  | Subscript a b p => cases e <;> rfl
  | Tuple es k p => cases e <;> rfl
  | _ => cases h
theorem swap_of {tg e : Expr} {env : Env} (h : okAs tg e = true) : swappedStores [tg] e env = pure none := by
  cases tg with
  | Name x p => cases e <;> rfl
  | Subscript a b p => cases e <;> rfl
  | Tuple es k p => cases e <;> first | rfl | cases h
  | _ => cases h
theorem each_of {tg e : Expr} {env : Env} (h : okAs tg e = true) : (assignEach [tg] env).map (·.2) = [assign tg env] := by
  cases tg <;> first | rfl | cases h
theorem s_asK {st : Stmt} {k : GD} : PS X st (PS_ (FX X cv fn xs) W (sAs dK k)) := ⟨fun _ _ _ _ _ _ ⟨_, _, _, _, _, p⟩ => p.elim⟩
theorem aug_of {b : Expr} (h : isSlice b = false) : ∀ ov iv new, augStore b ov iv new = (do holding [new, ov, iv] (setItem ov iv new); release [new, ov, iv] []; pure .next) := by
  intro ov iv new
  cases b <;> first | rfl | (cases h)
theorem asG_rd {i : Nat} {D : Ends} {σ : L2.St} {m : Nat → Addr} {h : Hh} {H : Hp} {r : R Mn.D} (hx : xs = none) (p : PO (FX X cv fn xs) W (rdR (FX X cv fn xs)) σ m h H r (fun x H1 => PGD_ (FX X cv fn xs) W (ofG (gN i)) x σ H1 D.nx)) : PO (FX X cv fn xs) W (rdR (FX X cv fn xs)) σ m h H r (fun x H1 => gName i x σ H1 D.nx) := by
  cases r with
  | stuck => exact p
  | exc x h1 => exact p
  | ok d h1 =>
    intro m1 H1 v g1 rh1 r1
    obtain ⟨m2, h2, d2, e2, rh2, re2, rd2, p2⟩ := p m1 H1 v g1 rh1 r1
    exact p2 m2 H1 _ Ge.refl rh2 (re2.set i (fun j a h => by rw [show xs = some (j, a) from h] at hx; cases hx) rd2)
theorem swap_yes {x y : Str} {px py pt pt2 : Pos} {kt k2 : Nat} {a b : Expr} (o : XOk X g cv fn xs) (h : okPar g x y px py a b = true) : swappedStores [.Tuple [.Name x px, .Name y py] kt pt] (.Tuple [a, b] k2 pt2) X.env = pure (some [x, y]) := by
  unfold okPar at h
  simp only [Bool.and_eq_true, Bool.not_eq_true'] at h
  obtain ⟨⟨⟨⟨⟨⟨⟨⟨⟨h0, h1⟩, h2⟩, h3⟩, h4⟩, h5⟩, h6⟩, h7⟩, h8⟩, h9⟩ := h
  have k1 : X.env.blockKind = .function := by
    have e : g.sc.kind = .function := by simpa using h1
    unfold Env.blockKind
    rw [o.sc, e]
    rfl
  have k5 : X.env.kindOf x = some .local := by unfold Env.kindOf; rw [o.sc]; simpa using h5
  have k6 : X.env.kindOf y = some .local := by unfold Env.kindOf; rw [o.sc]; simpa using h6
  have ed : ([x, y].eraseDups.length != [x, y].length) = false := by
    have hxy : (x == y) = false := h7
    have hyx : (y == x) = false := by
      have : x ≠ y := by simpa using hxy
      simpa using Ne.symm this
    simp [List.eraseDups_cons, hxy, hyx]
  unfold swappedStores
  dsimp only
  generalize hw : List.any [a, b] _ = w
  have ew : w = false := by
    rw [← hw, List.any_cons, List.any_cons, List.any_nil]
    cases a <;> first | (cases h2; done) | (cases b <;> first | (cases h3; done) | rfl)
  generalize hq : List.filterMap _ [Expr.Name x px, Expr.Name y py] = q
  have eq : q = [x, y] := by
    have hp : (Expr.Name x px).pos.line = px.line := rfl
    have hl2 : py.line = px.line := by simpa using h4
    rw [← hq]
    simp [List.filterMap_cons, k5, k6, hp, hl2]
  subst ew eq
  rw [k1, if_neg (by show ¬ (false = true); decide), if_neg (by decide), if_neg (by
    have z : ([x, y].length != [Expr.Name x px, Expr.Name y py].length) = false := rfl
    rw [z, ed]; decide)]
  rw [if_neg (by show ¬ ((foldedForSure 8 a && (foldedForSure 8 b && true)) = true); rw [Bool.and_true, h8]; decide), if_neg (by show ¬ ((constantsAlone 8 a && (constantsAlone 8 b && true)) = true); rw [Bool.and_true, h9]; decide)]
theorem d_S (hd : Sd d) (o : XOk X g cv fn xs) (tk : Takes X W) (hp : PassesOwn (model X.prog X.w) X.A X.env X.xe) (hm : g.md ≠ .blk) : ∀ (s : Stmt), PS X s (PS_ (FX X cv fn xs) W (stepS d g s)) := by
  intro s
  unfold stepS
  split
  · exact s_pass
  · exact s_brk
  · exact s_cont
  · split
    · exact s_K
    · rename_i h
      exact s_ex (hd.E X g cv fn xs W o tk _) (sw_none (bfalse h))
  · exact s_rt (hd.E X g cv fn xs W o tk _)
  · exact s_rtN
  · exact s_ifS (hd.T X g cv fn xs W o tk _) (d_Ss hd o tk hp hm _) (d_Ss hd o tk hp hm _)
  · rename_i y py el gs sc cpos spos
    split
    · rename_i hcell
      have k : X.env.kindOf y = some .cell := by unfold Env.kindOf; rw [o.sc]; simpa using hcell
      refine s_as (hd.E X g cv fn xs W o tk _) (d_G hd o tk hm _) ?_ rfl rfl
      show swapsWith (.ListComp el gs sc cpos) (some (.Name y py)) spos.line X.env = pure false
      unfold swapsWith
      simp only [k]
      have z : (some NameKind.cell == some NameKind.local) = false := rfl
      rw [z, Bool.and_false, Bool.false_and, Bool.false_and]
    split
    · rename_i i ei
      split
      · rename_i hc
        simp only [Bool.and_eq_true] at hc
        obtain ⟨⟨⟨hy, hl⟩, hn⟩, hcalm⟩ := hc
        have hy' : g.sc.names.lookup y = some .local := by simpa using hy
        have hyX : X.env.scope.names.lookup y = some .local := by rw [o.sc]; exact hy'
        have hN := (sto_of o ei).1
        obtain ⟨hc1, hx, _⟩ := o.calm hcalm
        unfold denLc
        split
        · rename_i tg it ifs
          dsimp only
          split
          · rename_i is t et
            split
            · rename_i hc
              obtain ⟨h1, h2, h3, h4⟩ := hc
              have ok : BlkOk X.N X.env.scope sc (ownOf g sc) := blkOk_by (by rw [o.N, o.sc]; exact h2)
              have hi : PI X tg it (PI_ (FX X cv fn xs) W (denI d g tg it)) := d_I hd o tk it
              have hg : ∀ (s : Shared) (H : Hp) (C : Addr) (cl : List (Str × Addr)) (fp : List Addr), PG (X.blk s H sc (compEnvC sc cl C X.env) fp) tg (PG_ (FX X cv fn xs) is t) := fun s H C cl fp => d_tg (X := X.blk s H sc (compEnvC sc cl C X.env) fp) (XOk.blk o h1) (blk_st o h1 ok) et (allMem h3)
              have ht : ∀ (s : Shared) (H : Hp) (C : Addr) (cl : List (Str × Addr)) (fp : List Addr), PTs (X.blk s H sc (compEnvC sc cl C X.env) fp) ifs (PT_ (FX X cv fn xs) (fun _ _ _ _ => False) (denTs d { g with sc := relS sc g.sc, md := .blk } ifs)) := fun s H C cl fp => d_Ts (X := X.blk s H sc (compEnvC sc cl C X.env) fp) hd (XOk.blk o h1) takes0 ifs
              have he : ∀ (s : Shared) (H : Hp) (C : Addr) (cl : List (Str × Addr)) (fp : List Addr), PE (X.blk s H sc (compEnvC sc cl C X.env) fp) el (PE_ (FX X cv fn xs) (fun _ _ _ _ => False) (d.E { g with sc := relS sc g.sc, md := .blk } el)) := fun s H C cl fp => hd.E (X.blk s H sc (compEnvC sc cl C X.env) fp) _ cv fn xs _ (XOk.blk o h1) takes0 el
              exact ⟨fun pins s σ H D I q => (s_asLc hx hc1 o.nd hN hyX (sw_true I.ok.kind hyX hl (by simpa using hn)) hi ok hg ht he (allMem h3) (set_of h4)).run pins s σ H D I q⟩
            · exact s_asK
          · exact s_asK
        · rename_i tg it ifs tg1 it1 ifs1
          dsimp only
          split
          · rename_i is t is1 t1 et et1
            split
            · rename_i hc
              obtain ⟨h1, h2, h3, h3', h4, h4'⟩ := hc
              obtain ⟨ok, hg, hg1, ht, ht1, hi1, he⟩ := lc2_parts (is := is) (t := t) (is1 := is1) (t1 := t1) (el := el) (ifs := ifs) (ifs1 := ifs1) (it1 := it1) hd o h1 h2 h3 h3' et et1
              have hi : PI X tg it (PI_ (FX X cv fn xs) W (denI d g tg it)) := d_I hd o tk it
              refine ⟨fun pins s σ H D I q => ?_⟩
              refine (ps_setLc2 hc1 o.nd hN hyX (sw_true I.ok.kind hyX hl (by simpa using hn)) hi ok (allMem h3') hg ht hi1 hg1 ht1 he (set_of h4) (fun env x => set_of h4' x)).run pins s σ H D I ?_
              have q1 := as_rd q
              obtain ⟨m, e, h, rh, re, p⟩ := q1
              refine s_lc2 (it := it) (it1 := it1) (el := el) (ifs := ifs) (ifs1 := ifs1) (scope := sc) hx (allMem h3) (Q := fun x H1 => gName i x σ H1 D.nx) ⟨m, e, h, rh, re, ?_⟩
              exact asG_rd hx p
            · exact s_asK
          · exact s_asK
        · exact s_asK
      · exact s_K
    · exact s_K
  · rename_i x px y py kt pt a b k2 pt2 p
    unfold denPar
    split
    · rename_i i j ei ej
      split
      · rename_i hp'
        have hp2 := hp'
        unfold okPar at hp2
        simp only [Bool.and_eq_true, Bool.not_eq_true'] at hp2
        obtain ⟨⟨⟨⟨⟨⟨⟨⟨⟨h0, h1⟩, h2⟩, h3⟩, h4⟩, h5⟩, h6⟩, h7⟩, h8⟩, h9⟩ := hp2
        obtain ⟨cm, hx, _⟩ := o.calm h0
        have hij : i ≠ j := fun z => by
          subst z
          have e1 := ix_of o ei
          rw [ix_of o ej] at e1
          cases e1
          simp at h7
        exact s_par hx cm o.nd (ix_of o ei) (ix_of o ej) hij (by rw [o.sc]; simpa using h5) (by rw [o.sc]; simpa using h6) (hd.E X g cv fn xs W o tk a) (hd.E X g cv fn xs W o tk b) (star_of h2) (star_of h3) (swap_yes o hp')
      · split
        · rename_i hf
          exact s_as (hd.E X g cv fn xs W o tk _) (d_G hd o tk hm _) rfl (swap_fold hf) rfl
        · exact s_K
    · exact s_K
  · rename_i oe f p1 e p2
    split
    · rename_i i ei
      obtain ⟨rfl, hi⟩ := fid_of ei
      split
      · exact s_fl o.na hi (hd.E X g cv fn xs W o tk _) (hd.E X g cv fn xs W o tk _) (by cases e <;> rfl)
      · exact s_K
    · exact s_K
  · split
    · rename_i h
      exact s_as (hd.E X g cv fn xs W o tk _) (d_G hd o tk hm _) (sole_of h) (swap_of h) (each_of h)
    · exact s_K
  · exact d_Aug hd o tk hm
  · split
    · exact s_K
    · rename_i hs
      exact s_augI (o_iop (cv := cv) (fn := fn) (xs := xs) _) (hd.E X g cv fn xs W o tk _) (hd.E X g cv fn xs W o tk _) (hd.E X g cv fn xs W o tk _) (aug_of (bfalse hs))
  · rename_i oe f p1 op e p2
    split
    · rename_i i ei
      obtain ⟨rfl, hi⟩ := fid_of ei
      exact s_augF o.na hi (hd.E X g cv fn xs W o tk _) (hd.E X g cv fn xs W o tk _) (o_iop (cv := cv) (fn := fn) (xs := xs) _)
    · exact s_K
  · rename_i tg it body p
    split
    · rename_i hc
      obtain ⟨hc, hs⟩ := hc
      split
      · rename_i is t et
        exact s_for hp (o.calm hc).1 (d_I hd o tk it) (d_tg o (stOk_of o hm) et fun _ _ => trivial) (d_Ss hd o tk hp hm body) (set_of hs)
      · exact s_K
    · exact s_K
  · exact s_while g.fuel hp (hd.T X g cv fn xs W o tk _) (d_Ss hd o tk hp hm _)
  · rename_i x p1 p2 p3
    split
    · rename_i hc
      split
      · rename_i c ec
        obtain ⟨gl, ⟨C, e1, e2, e3, e4, e5, e6⟩, nm, _⟩ := glob_of o ec
        exact s_raise (o.calm hc).2.1 (o.calm hc).1 tk e1 (pmk0 PySem.F.excBase_ValueError e4 e2 e3 (raises_own e5 e6) gl (okNm_of nm).1)
      · exact s_K
    · exact s_K
  · rename_i x p1 a as p2 p3
    split
    · rename_i hc
      obtain ⟨hc, hst⟩ := hc
      split
      · rename_i c fs ec
        split
        · rename_i hf
          obtain ⟨gl, ⟨C, e1, e2, e3, T, fI, fd, ps, h1, h2, h3, h4⟩, nm, _⟩ := glob_of o ec
          obtain ⟨cm, hxs, k, hr, hk, _⟩ := o.calm hc
          subst hxs
          have hst' := hst
          rw [List.any_cons, Bool.or_eq_false_iff] at hst'
          exact s_raiseA ⟨e1, T, fI, fd, ps, h1, h2, h3 _ _ _ _ _, h4⟩ cm tk (hr.mono (by omega)) gl e2 (d_A hd o tk _ hst) hf.1 hf.2 (okNm_of nm).1 (star_of hst'.1) (plain_of hst'.2)
        · exact s_K
      · exact s_K
    · exact s_K
  · rename_i body hs p
    split
    · rename_i hm'
      split
      · rename_i hdl eh
        exact d_Try hd o tk hm' eh
      · split
        · rename_i h0 hs0 hds eh
          exact d_TryM hd o tk hm' eh
        · exact s_K
    · exact s_K
  · exact s_K
end
end Mn
namespace Mn
open PySem L2
theorem d_zero : Sd (dd 0) := ⟨fun _ _ _ _ _ _ _ _ _ => e_K, fun _ _ _ _ _ _ _ _ _ => t_K, fun _ _ _ _ _ _ _ _ _ _ _ => s_K⟩
theorem d_all : ∀ n, Sd (dd n)
  | 0 => d_zero
  | n + 1 => ⟨fun _ _ _ _ _ _ o tk e => d_E (d_all n) o tk e, fun _ _ _ _ _ _ o tk e => d_T (d_all n) o tk e, fun _ _ _ _ _ _ o tk hp hm e => d_S (d_all n) o tk hp hm e⟩
structure Df where
  N : List Str
  sc : Scope
  body : List Stmt
structure Pg where
  defs : List Df
  gl : List (Str × GV)
  fl : List (Str × Nat)
  ms : List (Str × List (Nat × Nat × Nat × List D))
  sub : Nat → Nat → Option Bool
  isi : Nat → Nat → Option Bool
  xa : Nat → List Nat
  fuel : Nat
abbrev dep : Nat := 60
def Pg.g (P : Pg) (T : Nat → FD) (df : Df) : G := { N := df.N, sc := df.sc, gl := P.gl, fl := P.fl, ms := P.ms, T := T, sub := P.sub, isi := P.isi, xa := P.xa, fuel := P.fuel, md := .body }
noncomputable def Pg.run (P : Pg) (T : Nat → FD) (df : Df) : FD := fnRun (denSs (dd dep) (P.g T df) df.body) df.N.length
noncomputable def Pg.tbl (P : Pg) : Nat → Nat → FD
  | 0 => fun _ _ _ => .stuck
  | k + 1 => fun id => match P.defs[id]? with
    | some df => P.run (P.tbl k) df
    | none => fun _ _ => .stuck
structure DfB (K : PySem.W.Frag) (n : Nat) (df : Df) (f : Addr) (fd : FuncData) (ps : List Str) : Prop where
  ex : ∃ (oc : Value) (od : Option Addr) (name qual : Str) (params : Arguments) (dV kV doc pm : Value) (an : Option Addr) (cdv ct : Value) (osl : Array (Option Value)),
    fd = PySem.W.fnOf name qual params df.body df.sc dV kV doc pm an cdv ct ∧ K.lookup f = some ⟨oc, od, .func fd, osl⟩ ∧ PySem.W.codeIn K cdv qual = true
  np : ps.length = n
  sc : FnScope df.N ps df.sc
def DfD (K : PySem.W.Frag) (dv : List D) (fd : FuncData) (ps : List Str) : Prop := ∃ (dvs : List V), (∀ m N H, RDs K m N H dv dvs) ∧ ∀ j, j ≤ dv.length → ∃ ws, Vals (dvs.drop j) ws ∧ Binds K fd ps ws
structure DfOk (K : PySem.W.Frag) (mg : Str → Option Value) (x : Str) (n : Nat) (dv : List D) (df : Df) (f : Addr) (fd : FuncData) (ps : List Str) : Prop extends DfB K n df f fd ps where
  at_ : mg x = some (.ref f)
  kp : PySem.W.keepIn K (.ref f) = true
  b0 : dv = [] → ∀ us : List Value, us.length = ps.length → bindArgs fd ⟨us, []⟩ = pure (ps.zip us)
  dv : DfD K dv fd ps
structure ClOk (K : PySem.W.Frag) (mg : Str → Option Value) (cv : Nat → Value) (x : Str) (c n : Nat) (dv : List D) (pc : List Nat) (ks : List (Nat × List Str × List KP × List D)) (df : Df) (C g : Addr) (fd : FuncData) (ps : List Str) : Prop extends DfB K n df g fd ps where
  at_ : mg x = some (.ref C)
  hC : cv c = .ref C
  cl : Cls K C
  mk' : Mk K C g
  dvs : ∃ dvs : List V, (∀ m N H, RDs K m N H dv dvs) ∧ ∀ j, pc.elem j = true → j + 1 ≤ n ∧ n - (j + 1) ≤ dv.length ∧ ∃ ws, Vals (dvs.drop (dv.length - (n - (j + 1)))) ws ∧ Binds K fd ps ws
  kvs : ∀ t ∈ ks, KsOk K fd ps n t
def MeOk (P : List Df) (K : PySem.W.Frag) (cv : Nat → Value) (m : Str) (e : Nat × Nat × Nat × List D) : Prop := ∃ (df : Df) (C g : Addr) (fd : FuncData) (ps : List Str), P[e.2.1]? = some df ∧ cv e.1 = .ref C ∧ MethP K C m e.2.2.1 g ∧ DfB K (mN e.2.2.1) df g fd ps ∧ DfD K e.2.2.2 fd ps
structure PgOk (P : Pg) (K : PySem.W.Frag) (mg : Str → Option Value) (cv : Nat → Value) : Prop where
  gl : ∀ x v, P.gl.lookup x = some v → GlOk K mg cv x v
  sub : ∀ c1 c2 b, P.sub c1 c2 = some b → PySem.W.exmOne K (cv c1) (cv c2) = some b
  isi : ∀ c1 c2 b, P.isi c1 c2 = some b → PySem.W.kitOne K (cv c1) (cv c2) = some b ∧ ∃ C, cv c1 = .ref C ∧ ExcC K C
  defs : ∀ x id n dv, P.gl.lookup x = some (.fn id n dv) → ∃ df f fd ps, P.defs[id]? = some df ∧ DfOk K mg x n dv df f fd ps
  cls : ∀ x c id n dv pc ks, P.gl.lookup x = some (.ucls c id n dv pc ks) → ∃ df C g fd ps, P.defs[id]? = some df ∧ ClOk K mg cv x c n dv pc ks df C g fd ps
  mts : ∀ m l, P.ms.lookup m = some l → ∀ e ∈ l, MeOk P.defs K cv m e
  na : NaOk K cv naT
  xf : ∀ c f, (P.xa c).elem f = true → ∃ C, cv c = .ref C ∧ XfC K C ∧ PySem.W.findIn K (.ref C) (fnm f) = some none
theorem start_re {T : Fx} (hx : T.ex = none) {m : Nat → Addr} {N : Nat} {H : Hp} {ns : List Str} {ds : List D} {vs : List V} (r : RDs T.K m N H ds vs) : RE T m N H (ds.map some ++ List.replicate (ns.length - ds.length) none) (L2.start ns vs) := by
  have hl := r.length
  refine ⟨?_, fun i d h => ?_, fun i a _ _ z => by rw [hx] at z; cases z⟩
  · unfold L2.start
    rw [List.length_append, List.length_append, List.length_map, List.length_map, List.length_replicate, List.length_replicate, hl]
  · by_cases hi : i < ds.length
    · rw [List.getElem?_append_left (by rw [List.length_map]; exact hi), List.getElem?_map] at h
      cases q : ds[i]? with
      | none => rw [q] at h; cases h
      | some d' =>
        rw [q] at h
        cases h
        obtain ⟨v, e, rv⟩ := r.get q
        refine ⟨v, ?_, rv⟩
        unfold L2.start
        rw [List.getElem?_append_left (by rw [List.length_map, ← hl]; exact hi), List.getElem?_map, e]
        rfl
    · rw [List.getElem?_append_right (by rw [List.length_map]; omega), List.getElem?_replicate] at h
      split at h <;> cases h
theorem fn_ok {P : Pg} {Pr : Program} {w : World} {K : PySem.W.Frag} {mg : Str → Option Value} {base : Heap} {cv : Nat → Value} {fn : Nat → Str} {k : Nat} {T : Nat → FD} {n : Nat} {df : Df} {f : Addr} {fd : FuncData} {ps : List Str}
    (o : PgOk P K mg cv) (hdg : base.NoDigits) (fs : FnsOk Pr w K mg base cv fn P.gl P.ms k T) (hk : 1 ≤ k) (F : DfB K n df f fd ps) : FnOk Pr w K mg base (L2.CX Pr w) (k + 2) f fd ps (spT ⟨K, cv, fn, none⟩ n (P.run T df)) := by
  obtain ⟨oc, od, name, qual, params, dV, kV, doc, pm, an, cdv, ct, osl, rfl, lk, hcd⟩ := F.ex
  refine fn_of lk hcd F.sc (fun vs H Q E h => h.1.trans F.np.symm) fun A outer s H vs Q E hr hsp => ?_
  obtain ⟨hn, m, h, ds, rh, r, p⟩ := hsp
  have ok : XOk (cxOf (L2.CX Pr w) Pr w K mg base df.N qual df.sc f cdv A outer s H E) (P.g T df) cv fn none :=
    ⟨rfl, F.sc.nd, rfl, (show (A.deeper (PyProof.Rows.envOfC qual df.sc s.heap.objs.size f cdv)).units + 65 < cLine from by have := hr.un; omega), fun _ _ => rfl, fun _ => ⟨rfl, rfl, k, hr, hk, fs⟩, o.gl, o.sub, o.isi, fun _ => ⟨rfl, rfl⟩, o.na, o.xf, fun _ _ _ z => (by cases z), fun _ z => (by cases z), hdg⟩
  refine ⟨_, d_Ss (W := fun cls d _ H => E cls d H) (d_all dep) ok (takes_of rfl rfl rfl rfl) (passes_of rfl) (fun z => by cases z) df.body, ?_⟩
  refine ⟨m, _, h, rh, start_re (T := ⟨K, cv, fn, none⟩) rfl r, ?_⟩
  unfold Pg.run fnRun at p
  have hl := r.length
  cases q : denSs (dd dep) (P.g T df) df.body (ds.map some ++ List.replicate (df.N.length - ds.length) none) h with
  | stuck => rw [q] at p; exact p.elim
  | exc y e1 h1 =>
    rw [q] at p
    exact fun m1 H1 σ1 cls d1 g1 rh1 _ rx => p m1 H1 cls d1 g1 rh1 rx
  | go fl e1 h1 =>
    rw [q] at p
    cases fl with
    | nx => exact fun m1 H1 σ1 g1 rh1 _ => p m1 H1 .non g1 rh1 .non
    | rt d => exact fun m1 H1 v g1 rh1 rd => p m1 H1 v g1 rh1 rd
    | bk => exact p.elim
    | ct => exact p.elim
theorem fn_none {Pr : Program} {w : World} {K : PySem.W.Frag} {mg : Str → Option Value} {base : Heap} {cv : Nat → Value} {fn : Nat → Str} {k n : Nat} {df : Df} {f : Addr} {fd : FuncData} {ps : List Str} (F : DfB K n df f fd ps) : FnOk Pr w K mg base (L2.CX Pr w) k f fd ps (spT ⟨K, cv, fn, none⟩ n fun _ _ => .stuck) :=
  ⟨fun vs H Q E z => z.1.trans F.np.symm, fun A outer s H args us vs Q E _ _ _ _ z => by
    obtain ⟨_, m, h, ds, _, _, p⟩ := z
    exact p.elim⟩
theorem fns_of {P : Pg} {Pr : Program} {w : World} {K : PySem.W.Frag} {mg : Str → Option Value} {base : Heap} {cv : Nat → Value} {fn : Nat → Str} {k : Nat} {T : Nat → FD} (o : PgOk P K mg cv)
    (F : ∀ {id n : Nat} {df : Df} {f : Addr} {fd : FuncData} {ps : List Str}, P.defs[id]? = some df → DfB K n df f fd ps → FnOk Pr w K mg base (L2.CX Pr w) k f fd ps (spT ⟨K, cv, fn, none⟩ n (T id))) : FnsOk Pr w K mg base cv fn P.gl P.ms k T where
  fns := fun x id n dv h => by
    obtain ⟨df, f, fd, ps, h1, Q⟩ := o.defs x id n dv h
    obtain ⟨dvs, a, c⟩ := Q.dv
    exact ⟨f, fd, ps, dvs, Q.at_, Q.kp, Q.np, F h1 Q.toDfB, a, c⟩
  cls := fun x c id n dv pc ks h => by
    obtain ⟨df, C, g, fd, ps, h1, Q⟩ := o.cls x c id n dv pc ks h
    obtain ⟨dvs, a, b⟩ := Q.dvs
    exact ⟨C, g, fd, ps, dvs, Q.at_, Q.hC, Q.cl, Q.mk', Q.np, F h1 Q.toDfB, a, b, Q.kvs⟩
  mts := fun m l h e he => by
    obtain ⟨df, C, g, fd, ps, h1, hC, M, Q, dvs, a, c⟩ := o.mts m l h e he
    exact ⟨C, g, fd, ps, dvs, hC, M, Q.np, F h1 Q, a, c⟩
theorem fns_ok {P : Pg} {Pr : Program} {w : World} {K : PySem.W.Frag} {mg : Str → Option Value} {base : Heap} {cv : Nat → Value} {fn : Nat → Str} (o : PgOk P K mg cv) (hdg : base.NoDigits) : ∀ k, FnsOk Pr w K mg base cv fn P.gl P.ms (2 * k + 2) (P.tbl k)
  | 0 => fns_of o fun _ Q => fn_none Q
  | k + 1 => fns_of o fun {id n df f fd ps} h1 Q => by
    have e : P.tbl (k + 1) id = P.run (P.tbl k) df := by
      show (match P.defs[id]? with | some df => P.run (P.tbl k) df | none => fun _ _ => Mn.R.stuck) = _
      rw [h1]
    rw [e]
    exact fn_ok o hdg (fns_ok o hdg k) (by omega) Q
def glAll (K : PySem.W.Frag) (mg : Str → Option Value) (cv : Nat → Value) : List (Str × GV) → Prop
  | [] => True
  | p :: r => GlOk K mg cv p.1 p.2 ∧ glAll K mg cv r
theorem glAll_of {K : PySem.W.Frag} {mg : Str → Option Value} {cv : Nat → Value} : ∀ {l : List (Str × GV)}, glAll K mg cv l → ∀ x v, l.lookup x = some v → GlOk K mg cv x v
  | [], _, _, _, h => by cases h
  | (y, u) :: r, a, x, v, h => by
    rw [List.lookup_cons] at h
    cases hb : x == y with
    | true =>
      rw [hb] at h
      cases h
      have e : x = y := by simpa using hb
      rw [e]
      exact a.1
    | false =>
      rw [hb] at h
      exact glAll_of a.2 x v h
def dfAll (P : List Df) (K : PySem.W.Frag) (mg : Str → Option Value) : List (Str × GV) → Prop
  | [] => True
  | (x, .fn id n dv) :: r => (∃ df f fd ps, P[id]? = some df ∧ DfOk K mg x n dv df f fd ps) ∧ dfAll P K mg r
  | _ :: r => dfAll P K mg r
theorem dfAll_tail {P : List Df} {K : PySem.W.Frag} {mg : Str → Option Value} {p : Str × GV} {r : List (Str × GV)} (a : dfAll P K mg (p :: r)) : dfAll P K mg r := by
  obtain ⟨y, u⟩ := p
  cases u <;> first | exact a.2 | exact a
theorem dfAll_of {P : List Df} {K : PySem.W.Frag} {mg : Str → Option Value} : ∀ {l : List (Str × GV)}, dfAll P K mg l → ∀ x id n dv, l.lookup x = some (.fn id n dv) → ∃ df f fd ps, P[id]? = some df ∧ DfOk K mg x n dv df f fd ps
  | [], _, _, _, _, _, h => by cases h
  | (y, u) :: r, a, x, id, n, dv, h => by
    rw [List.lookup_cons] at h
    cases hb : x == y with
    | true =>
      rw [hb] at h
      cases h
      have e : x = y := by simpa using hb
      rw [e]
      exact a.1
    | false =>
      rw [hb] at h
      exact dfAll_of (dfAll_tail a) x id n dv h
def tb2 (l : List (Nat × Nat × Bool)) : Nat → Nat → Option Bool := fun a b => (l.find? fun t => t.1 == a && t.2.1 == b).map (·.2.2)
def tbAll (Q : Nat → Nat → Bool → Prop) : List (Nat × Nat × Bool) → Prop
  | [] => True
  | t :: r => Q t.1 t.2.1 t.2.2 ∧ tbAll Q r
theorem tbAll_of {Q : Nat → Nat → Bool → Prop} : ∀ {l : List (Nat × Nat × Bool)}, tbAll Q l → ∀ a b k, tb2 l a b = some k → Q a b k
  | [], _, _, _, _, h => by cases h
  | t :: r, q, a, b, k, h => by
    unfold tb2 at h
    rw [List.find?_cons] at h
    cases hb : (t.1 == a && t.2.1 == b) with
    | true =>
      rw [hb] at h
      cases h
      rw [Bool.and_eq_true] at hb
      have e1 : t.1 = a := by simpa using hb.1
      have e2 : t.2.1 = b := by simpa using hb.2
      rw [← e1, ← e2]
      exact q.1
    | false =>
      rw [hb] at h
      exact tbAll_of q.2 a b k h
def clAll (P : List Df) (K : PySem.W.Frag) (mg : Str → Option Value) (cv : Nat → Value) : List (Str × GV) → Prop
  | [] => True
  | (x, .ucls c id n dv pc ks) :: r => (∃ df C g fd ps, P[id]? = some df ∧ ClOk K mg cv x c n dv pc ks df C g fd ps) ∧ clAll P K mg cv r
  | _ :: r => clAll P K mg cv r
theorem clAll_tail {P : List Df} {K : PySem.W.Frag} {mg : Str → Option Value} {cv : Nat → Value} {p : Str × GV} {r : List (Str × GV)} (a : clAll P K mg cv (p :: r)) : clAll P K mg cv r := by
  obtain ⟨y, u⟩ := p
  cases u <;> first | exact a.2 | exact a
theorem clAll_of {P : List Df} {K : PySem.W.Frag} {mg : Str → Option Value} {cv : Nat → Value} : ∀ {l : List (Str × GV)}, clAll P K mg cv l → ∀ x c id n dv pc ks, l.lookup x = some (.ucls c id n dv pc ks) → ∃ df C g fd ps, P[id]? = some df ∧ ClOk K mg cv x c n dv pc ks df C g fd ps
  | [], _, _, _, _, _, _, _, _, h => by cases h
  | (y, u) :: r, a, x, c, id, n, dv, pc, ks, h => by
    rw [List.lookup_cons] at h
    cases hb : x == y with
    | true =>
      rw [hb] at h
      cases h
      have e : x = y := by simpa using hb
      rw [e]
      exact a.1
    | false =>
      rw [hb] at h
      exact clAll_of (clAll_tail a) x c id n dv pc ks h
def meAll1 (P : List Df) (K : PySem.W.Frag) (cv : Nat → Value) (m : Str) : List (Nat × Nat × Nat × List D) → Prop
  | [] => True
  | e :: r => MeOk P K cv m e ∧ meAll1 P K cv m r
def meAll (P : List Df) (K : PySem.W.Frag) (cv : Nat → Value) : List (Str × List (Nat × Nat × Nat × List D)) → Prop
  | [] => True
  | p :: r => meAll1 P K cv p.1 p.2 ∧ meAll P K cv r
theorem meAll1_of {P : List Df} {K : PySem.W.Frag} {cv : Nat → Value} {m : Str} : ∀ {l : List (Nat × Nat × Nat × List D)}, meAll1 P K cv m l → ∀ e ∈ l, MeOk P K cv m e
  | [], _, _, h => by cases h
  | e :: r, a, e', h => by
    rcases List.mem_cons.mp h with h | h
    · rw [h]; exact a.1
    · exact meAll1_of a.2 e' h
theorem meAll_of {P : List Df} {K : PySem.W.Frag} {cv : Nat → Value} : ∀ {l : List (Str × List (Nat × Nat × Nat × List D))}, meAll P K cv l → ∀ m q, l.lookup m = some q → ∀ e ∈ q, MeOk P K cv m e
  | [], _, _, _, h, _, _ => by cases h
  | (y, u) :: r, a, m, q, h, e, he => by
    rw [List.lookup_cons] at h
    cases hb : m == y with
    | true =>
      rw [hb] at h
      cases h
      have em : m = y := by simpa using hb
      rw [em]
      exact meAll1_of a.1 e he
    | false =>
      rw [hb] at h
      exact meAll_of a.2 m q h e he
def noAll (K : PySem.W.Frag) (C : Addr) : List Nat → Prop
  | [] => True
  | f :: r => NoAttr K C (fnm f) ∧ noAll K C r
def naAll (K : PySem.W.Frag) (cv : Nat → Value) : List (Nat × List Nat) → Prop
  | [] => True
  | p :: r => (∀ C, cv p.1 = .ref C → noAll K C p.2) ∧ naAll K cv r
theorem noAll_of {K : PySem.W.Frag} {C : Addr} : ∀ {l : List Nat}, noAll K C l → ∀ f, l.elem f = true → NoAttr K C (fnm f)
  | [], _, _, h => by cases h
  | g :: r, a, f, h => by
    rw [List.elem_cons] at h
    cases hb : f == g with
    | true =>
      have e : f = g := by simpa using hb
      rw [e]
      exact a.1
    | false =>
      rw [hb] at h
      exact noAll_of a.2 f h
theorem naAll_of {K : PySem.W.Frag} {cv : Nat → Value} : ∀ {l : List (Nat × List Nat)}, naAll K cv l → ∀ c f, ((l.lookup c).getD []).elem f = true → ∀ C, cv c = .ref C → NoAttr K C (fnm f)
  | [], _, _, _, h, _, _ => by cases h
  | (d, fs) :: r, a, c, f, h, C, e => by
    rw [List.lookup_cons] at h
    cases hb : c == d with
    | true =>
      rw [hb] at h
      have e1 : c = d := by simpa using hb
      subst e1
      exact noAll_of (a.1 C e) f h
    | false =>
      rw [hb] at h
      exact naAll_of a.2 c f h C e
def xaOf (l : List (Nat × List Nat)) (c : Nat) : List Nat := (l.lookup c).getD []
def xfAll (K : PySem.W.Frag) (cv : Nat → Value) : List (Nat × List Nat) → Prop
  | [] => True
  | p :: r => (∃ C, cv p.1 = .ref C ∧ XfC K C ∧ noAll K C p.2) ∧ xfAll K cv r
theorem xfAll_of {K : PySem.W.Frag} {cv : Nat → Value} : ∀ {l : List (Nat × List Nat)}, xfAll K cv l → ∀ c f, (xaOf l c).elem f = true → ∃ C, cv c = .ref C ∧ XfC K C ∧ PySem.W.findIn K (.ref C) (fnm f) = some none
  | [], _, _, _, h => by cases h
  | (d, fs) :: r, a, c, f, h => by
    unfold xaOf at h
    rw [List.lookup_cons] at h
    cases hb : c == d with
    | true =>
      rw [hb] at h
      have e1 : c = d := by simpa using hb
      subst e1
      obtain ⟨C, h1, h2, h3⟩ := a.1
      exact ⟨C, h1, h2, noAll_of h3 f h⟩
    | false =>
      rw [hb] at h
      exact xfAll_of a.2 c f h
theorem dfb_mk {K : PySem.W.Frag} {x qual : Str} {st : Stmt} {f : Addr} {oc : Value} {od an : Option Addr} {osl : Array (Option Value)} {dV kV doc pm cdv ct : Value} {N ps : List Str}
    (l : K.lookup f = some ⟨oc, od, .func (PySem.W.fnOf x qual (defArgs st) (defBody st) (defScope st) dV kV doc pm an cdv ct), osl⟩) (c : PySem.W.codeIn K cdv qual = true) (S : FnScope N ps (defScope st)) :
    DfB K ps.length ⟨N, defScope st, defBody st⟩ f (PySem.W.fnOf x qual (defArgs st) (defBody st) (defScope st) dV kV doc pm an cdv ct) ps :=
  ⟨⟨oc, od, x, qual, _, _, kV, doc, pm, an, cdv, ct, osl, rfl, l, c⟩, rfl, S⟩
theorem dfd_mk {K : PySem.W.Frag} {x qual : Str} {st : Stmt} {kV doc pm cdv ct : Value} {an : Option Addr} {ps : List Str}
    (hb : ∀ (kV doc pm : Value) (an : Option Addr) (cdv ct : Value) (us : List Value), us.length = ps.length → bindArgs (PySem.W.fnOf x qual (defArgs st) (defBody st) (defScope st) .none kV doc pm an cdv ct) ⟨us, []⟩ = pure (ps.zip us)) :
    DfD K [] (PySem.W.fnOf x qual (defArgs st) (defBody st) (defScope st) .none kV doc pm an cdv ct) ps :=
  ⟨[], fun _ _ _ => .nil, fun j hj => ⟨[], by rw [List.drop_nil]; exact .nil, .all (hb kV doc pm an cdv ct)⟩⟩
theorem df_mk {K : PySem.W.Frag} {h : Heap} {mg : Str → Option Value} {x : Str} {st : Stmt} {f : Addr} {oc : Value} {od an : Option Addr} {osl : Array (Option Value)} {kV doc pm cdv ct : Value} {N ps : List Str} (X : K.In h) (G : h.Ns mainGlobals mg)
    (a : PySem.W.nsIn K mainGlobals x = some (some (.ref f))) (l : K.lookup f = some ⟨oc, od, .func (PySem.W.fnOf x x (defArgs st) (defBody st) (defScope st) .none kV doc pm an cdv ct), osl⟩) (c : PySem.W.codeIn K cdv x = true) (k : PySem.W.keepIn K (.ref f) = true)
    (S : FnScope N ps (defScope st)) (hb : ∀ (kV doc pm : Value) (an : Option Addr) (cdv ct : Value) (us : List Value), us.length = ps.length → bindArgs (PySem.W.fnOf x x (defArgs st) (defBody st) (defScope st) .none kV doc pm an cdv ct) ⟨us, []⟩ = pure (ps.zip us)) :
    ∃ fd, DfOk K mg x ps.length [] ⟨N, defScope st, defBody st⟩ f fd ps :=
  ⟨_, ⟨dfb_mk l c S, PySem.W.mg_of X G a, k, fun _ => hb kV doc pm an cdv ct, dfd_mk hb⟩⟩
theorem law_sp {P : Pg} {K : PySem.W.Frag} {cv : Nat → Value} {fn : Nat → Str} {k id : Nat} {q : List Int → Prop} (hl : ∀ ns : List Int, q ns → ∃ h, P.tbl k id [.ref 0] [.frz (ns.map .int)] = .ok (.bl true) h)
    {H : Hp} {a : Addr} {ns : List Int} (h63 : q ns) (hO : Only H) (hS : SqL K H a (ns.map V.int)) : spT ⟨K, cv, fn, none⟩ 1 (P.tbl k id) [.ref a] H (fun v _ => v = .bl true) fun _ _ _ => False := by
  obtain ⟨h', e⟩ := hl ns h63
  have fz : FzL K H a (ns.map V.int) := by
    rcases hS with (hS | hS) | hS
    · rcases hO a with z | ⟨o, xs, z⟩
      · rw [z] at hS; cases hS
      · rw [z] at hS; cases hS
    · exact .inl hS
    · exact .inr hS
  have hints : ∀ (l : List Int), RDs K (fun _ => a) 1 H (l.map D.int) (l.map V.int) := fun l => by
    induction l with
    | nil => exact .nil
    | cons i r ih => exact .cons (.int i) ih
  refine ⟨rfl, fun _ => a, [.frz (ns.map .int)], [.ref 0], ⟨fun n o hn => ?_, fun i j o u h1 h2 f1 f2 _ => ?_⟩, .cons (.ref (Nat.zero_lt_one)) .nil, ?_⟩
  · match n, hn with
    | 0, hn =>
      cases hn
      exact ⟨_, fz, hints ns⟩
    | n + 1, hn => simp at hn
  · match i, h1 with
    | 0, h1 => cases h1; cases f1
    | i + 1, h1 => simp at h1
  · rw [e]
    intro m1 H1 v g1 rh1 r
    cases r
    rfl
end Mn
namespace Mn
open PySem L2
structure XcW (K : PySem.W.Frag) (x : Str) (C f : Addr) (qual : Str) (st : Stmt) (ps : List Str) (fd : FuncData) : Prop where
  aC : PySem.W.nsIn K mainGlobals x = some (some (.ref C))
  kC : PySem.W.keepIn K (.ref C) = true
  T : OexC K C
  iC : PySem.W.findIn K (.ref C) "__init__" = some (some (.ref f))
  tI : PySem.W.typeIn K (.ref f) = some (.type "function")
  l : ∃ (oc : Value) (od an : Option Addr) (osl : Array (Option Value)) (kV doc pm cdv ct : Value), fd = PySem.W.fnOf "__init__" qual (defArgs st) (defBody st) (defScope st) .none kV doc pm an cdv ct ∧ K.lookup f = some ⟨oc, od, .func fd, osl⟩ ∧ PySem.W.codeIn K cdv qual = true
  S : FnScope ps ps (defScope st)
  bd : ∀ us : List Value, us.length = ps.length → bindArgs fd ⟨us, []⟩ = pure (ps.zip us)
theorem xcls1 {K : PySem.W.Frag} {h : Heap} {mg : Str → Option Value} {cv : Nat → Value} {x qual p : Str} {c i : Nat} {st : Stmt} {C f : Addr} {fd : FuncData} {p1 p2 p3 p4 : Pos} (X : K.In h) (G : h.Ns mainGlobals mg) (e : cv c = .ref C) (w : XcW K x C f qual st ["self", p] fd)
    (hn : PySem.W.findIn K (.ref C) (fnm i) = some none) (hb : defBody st = [.Assign [.Attribute (.Name "self" p1) (fnm i) p2] (.Name p p3) p4]) (h1 : (p == ("__debug__" : Str)) = false) (h2 : (p == ("__classdict__" : Str)) = false) : GlOk K mg cv x (.xcls c [i]) := by
  obtain ⟨aC, kC, T, iC, tI, ⟨oc, od, an, osl, kV, doc, pm, cdv, ct, rfl, l, hc⟩, S, bd⟩ := w
  refine ⟨C, e, PySem.W.mg_of X G aC, kC, T, f, _, ["self", p], iC, tI, fun P w mg base CX => ?_, .all bd⟩
  rw [hb] at l ⊢
  exact xinit1 l hc S h1 h2 T hn
end Mn
namespace Mn
open PySem PySem.Spec PyProof.Rows L2
section
variable {K : PySem.W.Frag} {x qual : Str} {params : Arguments} {body : List Stmt} {scope : Scope} {D : Addr} {doc pm cdv ct : Value} {an : Option Addr} {ps : List Str}
end
end Mn
namespace Mn
open PySem PySem.Spec PyProof.Rows L2
end Mn
namespace Mn
open PySem L2 PySem.Spec PyProof.Rows
theorem no_cx {P : Program} {w : World} {H : Hp} {s : Shared} {e : Value} {s' : Shared} (c : L2.CX P w [] H s (fun _ _ _ => False) e s') : False := by
  obtain ⟨_, _, _, _, _, _, _, _, _, _, _, _, z⟩ := c
  exact z
theorem walk_mn {l : PySem.W.OpenLaw} {n k id : Nat} {q : Program} {loose : List Str} {XP : (Str → Option Value) → Heap → Prop} {YP : World → Heap → Prop} {d : DefRec} {K : Params → PySem.W.Frag} {x : Str} {P : Pg}
    (hn : l.most = some n) (hn2 : n ≤ sizeLine) (hdf : d.params.defaults = []) (hr : Room (2 * k + 4) callerA)
    (hY : ∀ (w : World) (h : Heap), YP w h → (K w.params).In h)
    (hl : ∀ ns : List Int, ns.length ≤ n → (∀ z ∈ ns, Builtin.Int.intBits z ≤ 1048576) → ∃ h, P.tbl (k + 1) id [.ref 0] [.frz (ns.map .int)] = .ok (.bl true) h)
    (F : ∀ (w : World) (mg : Str → Option Value) (h : Heap), (K w.params).In h → h.Ns mainGlobals mg → ∃ cv df f fd, P.defs[id]? = some df ∧ PgOk P (K w.params) mg cv ∧ DfOk (K w.params) mg d.name 1 [] df f fd [x]) :
    PySem.W.WalkO q loose XP YP l.row.toRowW d [] (fun f vs => PySem.call f vs) := by
  refine Att.attach_callB hn hdf fun w s₀ s₁ mg mb fa o pm cd doc a vs ns G Y ho hd hcd hmg hobj hints hlen hbits hg => ?_
  have KX := hY w _ Y
  obtain ⟨cv, df, f, fd, hdf, hP, hD⟩ := F w mg _ KX G.T.g
  have ef : f = fa := by
    have e := hD.at_
    rw [hmg] at e
    cases e
    rfl
  subst ef
  refine law_callD (CX := L2.CX l.prog w) (x := x) (fd := fd) (sp := spT ⟨K w.params, cv, fun _ => .ofString "", none⟩ 1 (P.tbl (k + 1) id)) KX G.T.g G.T.b G.T.builtins G.T.nolimit G.T.nodigits hg hobj hints (Nat.le_trans hlen hn2) hr (fun base h1 hdg => ?_) (fun s u => .of_eq (hD.b0 rfl [u] rfl)) (fun H hO hS => law_sp (q := fun ns => ns.length ≤ n ∧ ∀ z ∈ ns, Builtin.Int.intBits z ≤ 1048576) (fun ns h => ?_) ⟨hlen, hbits⟩ hO hS) fun H e s' c => no_cx c
  · have e : P.tbl (k + 1) id = P.run (P.tbl k) df := by
      show (match P.defs[id]? with | some df => P.run (P.tbl k) df | none => fun _ _ => Mn.R.stuck) = _
      rw [hdf]
    rw [e]
    exact fn_ok hP hdg (fns_ok hP hdg k) (by omega) hD.toDfB
  · exact hl ns h.1 h.2
end Mn
namespace Mn
open PySem
inductive Y where
  | non | bl (b : Bool) | int (i : Int) | str (s : Str) | tup (ys : List Y) | lst (ys : List Y) | ins (c : Nat) (fs : List (Nat × Y)) | own (n : Nat) | frz (ys : List Y) | rg (lo hi : Int)
  deriving Inhabited
inductive C where
  | lst (ys : List Y) | ins (c : Nat) (fs : List (Nat × Y))
abbrev OC := List (Nat × C)
abbrev Vw := Nat → Option O
structure Xy where
  cls : Nat
  fs : List (Nat × Y) := []
abbrev Ey := List (Option Y)
abbrev OC.ks (o : OC) : List Nat := o.map (·.1)
mutual
inductive RY (v : Vw) : D → Y → Prop
  | non : RY v .non .non
  | bl (b : Bool) : RY v (.bl b) (.bl b)
  | int (i : Int) : RY v (.int i) (.int i)
  | str (s : Str) : RY v (.str s) (.str s)
  | tup {ds : List D} {ys : List Y} : RYs v ds ys → RY v (.tup ds) (.tup ys)
  | lst {n : Nat} {ds : List D} {ys : List Y} : v n = some (.lst ds) → RYs v ds ys → RY v (.ref n) (.lst ys)
  | frz {n : Nat} {ds : List D} {ys : List Y} : v n = some (.frz ds) → RYs v ds ys → RY v (.ref n) (.frz ys)
  | ins {n : Nat} {c : Nat} {ds : List (Nat × D)} {fs : List (Nat × Y)} : v n = some (.ins c ds) → RFs v ds fs → RY v (.ref n) (.ins c fs)
  | own {n : Nat} : RY v (.ref n) (.own n)
  | rg (lo hi : Int) : RY v (.rg lo hi) (.rg lo hi)
inductive RYs (v : Vw) : List D → List Y → Prop
  | nil : RYs v [] []
  | cons {d : D} {y : Y} {ds : List D} {ys : List Y} : RY v d y → RYs v ds ys → RYs v (d :: ds) (y :: ys)
inductive RFs (v : Vw) : List (Nat × D) → List (Nat × Y) → Prop
  | nil : RFs v [] []
  | cons {n : Nat} {d : D} {y : Y} {ds : List (Nat × D)} {ys : List (Nat × Y)} : RY v d y → RFs v ds ys → RFs v ((n, d) :: ds) ((n, y) :: ys)
end
abbrev Vle (v v' : Vw) : Prop := ∀ n x, v n = some x → v' n = some x
mutual
theorem RY.mono {v v' : Vw} (l : Vle v v') : ∀ {d : D} {y : Y}, RY v d y → RY v' d y
  | _, _, .non => .non
  | _, _, .bl b => .bl b
  | _, _, .int i => .int i
  | _, _, .str s => .str s
  | _, _, .tup r => .tup (RYs.mono l r)
  | _, _, .lst e r => .lst (l _ _ e) (RYs.mono l r)
  | _, _, .frz e r => .frz (l _ _ e) (RYs.mono l r)
  | _, _, .ins e r => .ins (l _ _ e) (RFs.mono l r)
  | _, _, .own => .own
  | _, _, .rg a b => .rg a b
theorem RYs.mono {v v' : Vw} (l : Vle v v') : ∀ {ds : List D} {ys : List Y}, RYs v ds ys → RYs v' ds ys
  | _, _, .nil => .nil
  | _, _, .cons a r => .cons (RY.mono l a) (RYs.mono l r)
theorem RFs.mono {v v' : Vw} (l : Vle v v') : ∀ {ds : List (Nat × D)} {ys : List (Nat × Y)}, RFs v ds ys → RFs v' ds ys
  | _, _, .nil => .nil
  | _, _, .cons a r => .cons (RY.mono l a) (RFs.mono l r)
end
section
variable {v : Vw}
theorem RYs.length : ∀ {ds : List D} {ys : List Y}, RYs v ds ys → ds.length = ys.length
  | _, _, .nil => rfl
  | _, _, .cons _ r => congrArg Nat.succ (RYs.length r)
theorem RYs.get : ∀ {ds : List D} {ys : List Y} {i : Nat} {y : Y}, RYs v ds ys → ys[i]? = some y → ∃ d, ds[i]? = some d ∧ RY v d y
  | _, _, _, _, .nil, e => by simp at e
  | _, _, 0, _, .cons r _, e => by simp at e; subst e; exact ⟨_, rfl, r⟩
  | _, _, i + 1, d, .cons _ r, e => by
    obtain ⟨v, h1, h2⟩ := RYs.get (i := i) (y := d) r (by simpa using e)
    exact ⟨v, by simpa using h1, h2⟩
theorem RYs.append : ∀ {ds es : List D} {ys zs : List Y}, RYs v ds ys → RYs v es zs → RYs v (ds ++ es) (ys ++ zs)
  | _, _, _, _, .nil, s => s
  | _, _, _, _, .cons r t, s => .cons r (RYs.append t s)
theorem RYs.snoc {ds : List D} {ys : List Y} {d : D} {y : Y} (a : RYs v ds ys) (b : RY v d y) : RYs v (ds ++ [d]) (ys ++ [y]) := a.append (.cons b .nil)
theorem RYs.set : ∀ {ds : List D} {ys : List Y} {d : D} {y : Y} (i : Nat), RY v d y → RYs v ds ys → RYs v (ds.set i d) (ys.set i y)
  | _, _, _, _, _, _, .nil => .nil
  | _, _, _, _, 0, r, .cons _ t => .cons r t
  | _, _, _, _, i + 1, r, .cons q t => .cons q (RYs.set i r t)
theorem RYs.split : ∀ {as bs : List Y} {ds : List D}, RYs v ds (as ++ bs) → ∃ d1 d2, ds = d1 ++ d2 ∧ RYs v d1 as ∧ RYs v d2 bs
  | [], bs, ds, r => ⟨[], ds, rfl, .nil, r⟩
  | a :: as, bs, _, .cons q r => by
    obtain ⟨d1, d2, e, h1, h2⟩ := RYs.split r
    exact ⟨_ :: d1, d2, by rw [e]; rfl, .cons q h1, h2⟩
theorem RYs.ints : ∀ l : List Int, RYs v (l.map .int) (l.map .int)
  | [] => .nil
  | i :: l => .cons (.int i) (RYs.ints l)
end
inductive RC (v : Vw) : O → C → Prop
  | lst {ds : List D} {ys : List Y} : RYs v ds ys → RC v (.lst ds) (.lst ys)
  | ins {c : Nat} {ds : List (Nat × D)} {fs : List (Nat × Y)} : RFs v ds fs → RC v (.ins c ds) (.ins c fs)
theorem RC.mono {v v' : Vw} (l : Vle v v') {x : O} {c : C} : RC v x c → RC v' x c
  | .lst r => .lst (r.mono l)
  | .ins r => .ins (r.mono l)
structure Sat (v : Vw) (o : OC) (h : Hh) : Prop where
  vw : ∀ n x, v n = some x → h[n]? = some x
  oc : ∀ p ∈ o, ∃ x, h[p.1]? = some x ∧ v p.1 = none ∧ RC v x p.2
  nd : o.ks.Nodup
structure Fr (v : Vw) (o : OC) (h : Hh) (v' : Vw) (o' : OC) (h' : Hh) : Prop where
  mono : Vle v v'
  keep : ∀ n x, h[n]? = some x → n ∉ o.ks → h'[n]? = some x ∧ v' n = v n ∧ n ∉ o'.ks
theorem Fr.refl (v : Vw) (o : OC) (h : Hh) : Fr v o h v o h := ⟨fun _ _ z => z, fun _ _ e k => ⟨e, rfl, k⟩⟩
theorem Fr.trans {v v1 v2 : Vw} {o o1 o2 : OC} {h h1 h2 : Hh} (a : Fr v o h v1 o1 h1) (b : Fr v1 o1 h1 v2 o2 h2) : Fr v o h v2 o2 h2 :=
  ⟨fun n x z => b.mono n x (a.mono n x z), fun n x e k => let ⟨p1, p2, p3⟩ := a.keep n x e k; let ⟨q1, q2, q3⟩ := b.keep n x p1 p3; ⟨q1, q2.trans p2, q3⟩⟩
def RXy (v : Vw) (x : Xc) (y : Xy) : Prop := x.cls = y.cls ∧ RFs v x.fs y.fs
theorem RXy.mono {v v' : Vw} (l : Vle v v') {x : Xc} {y : Xy} (r : RXy v x y) : RXy v' x y := ⟨r.1, r.2.mono l⟩
end Mn
namespace Mn
open PySem
abbrev XQ := Xy → OC → Prop
def PR {α β : Type} (RA : Vw → α → β → Prop) (v : Vw) (o : OC) (h : Hh) (r : R α) (Q : β → OC → Prop) (X : XQ) : Prop := match r with
  | .ok a h' => ∃ v' o' b, Fr v o h v' o' h' ∧ Sat v' o' h' ∧ RA v' a b ∧ Q b o'
  | .exc x h' => ∃ v' o' y, Fr v o h v' o' h' ∧ Sat v' o' h' ∧ RXy v' x y ∧ X y o'
  | .stuck => False
structure REy (v : Vw) (e : Ev) (E : Ey) : Prop where
  len : e.length = E.length
  at_ : ∀ (i : Nat) (y : Y), E[i]? = some (some y) → ∃ d, e[i]? = some (some d) ∧ RY v d y
end Mn
namespace Mn
open PySem
theorem REy.mono {v v' : Vw} (l : Vle v v') {e : Ev} {E : Ey} (r : REy v e E) : REy v' e E := ⟨r.len, fun i y h => let ⟨d, a, b⟩ := r.at_ i y h; ⟨d, a, b.mono l⟩⟩
theorem REy.set {v : Vw} {e : Ev} {E : Ey} {d : D} {y : Y} (r : REy v e E) (i : Nat) (q : RY v d y) : REy v (e.set i (some d)) (E.set i (some y)) := by
  refine ⟨by rw [List.length_set, List.length_set]; exact r.len, fun j z h => ?_⟩
  by_cases hij : i = j
  · subst hij
    by_cases hl : i < E.length
    · rw [List.getElem?_set_self hl] at h
      cases h
      exact ⟨d, List.getElem?_set_self (by rw [r.len]; exact hl), q⟩
    · rw [List.getElem?_eq_none (by rw [List.length_set]; omega)] at h
      cases h
  · rw [List.getElem?_set_ne hij] at h ⊢
    exact r.at_ j z h
theorem REy.drop1 {v : Vw} {e : Ev} {E : Ey} (r : REy v e E) (i : Nat) (w : Option D) : REy v (e.set i w) (E.set i none) := by
  refine ⟨by rw [List.length_set, List.length_set]; exact r.len, fun j z h => ?_⟩
  by_cases hij : i = j
  · subst hij
    by_cases hl : i < E.length
    · rw [List.getElem?_set_self hl] at h
      cases h
    · rw [List.getElem?_eq_none (by rw [List.length_set]; omega)] at h
      cases h
  · rw [List.getElem?_set_ne hij] at h ⊢
    exact r.at_ j z h
def wipeY (E : Ey) : List Nat → Ey
  | [] => E
  | v :: vs => (wipeY E vs).set v none
theorem REy.wipe {v : Vw} {e : Ev} {E : Ey} (r : REy v e E) : ∀ vs : List Nat, REy v (wipe e vs) (wipeY E vs)
  | [] => r
  | w :: vs => (REy.wipe r vs).drop1 w none
inductive Fl where
  | nx | bk | ct | rt (y : Y)
abbrev ZQ := Fl → Ey → OC → Prop
abbrev XS := Xy → Ey → OC → Prop
def PSR (v : Vw) (o : OC) (h : Hh) (r : RS) (Z : ZQ) (X : XS) : Prop := match r with
  | .go .nx e h' => ∃ v' o' E, Fr v o h v' o' h' ∧ Sat v' o' h' ∧ REy v' e E ∧ Z .nx E o'
  | .go .bk e h' => ∃ v' o' E, Fr v o h v' o' h' ∧ Sat v' o' h' ∧ REy v' e E ∧ Z .bk E o'
  | .go .ct e h' => ∃ v' o' E, Fr v o h v' o' h' ∧ Sat v' o' h' ∧ REy v' e E ∧ Z .ct E o'
  | .go (.rt d) e h' => ∃ v' o' E y, Fr v o h v' o' h' ∧ Sat v' o' h' ∧ REy v' e E ∧ RY v' d y ∧ Z (.rt y) E o'
  | .exc x e h' => ∃ v' o' E y, Fr v o h v' o' h' ∧ Sat v' o' h' ∧ REy v' e E ∧ RXy v' x y ∧ X y E o'
  | .stuck => False
def VE (a : ED) (E : Ey) (o : OC) (Q : Y → OC → Prop) (X : XQ) : Prop := ∀ v e h, REy v e E → Sat v o h → PR RY v o h (a e h) Q X
def VT (t : TD) (E : Ey) (o : OC) (Q : Bool → OC → Prop) (X : XQ) : Prop := ∀ v e h, REy v e E → Sat v o h → PR (fun _ a b => a = b) v o h (t e h) Q X
def VA (a : AD) (E : Ey) (o : OC) (Q : List Y → OC → Prop) (X : XQ) : Prop := ∀ v e h, REy v e E → Sat v o h → PR RYs v o h (a e h) Q X
def VS (s : SD) (E : Ey) (o : OC) (Z : ZQ) (X : XS) : Prop := ∀ v e h, REy v e E → Sat v o h → PSR v o h (s e h) Z X
def VF (f : FD) (ys : List Y) (o : OC) (Q : Y → OC → Prop) (X : XQ) : Prop := ∀ v ds h, RYs v ds ys → Sat v o h → PR RY v o h (f ds h) Q X
def VO (g : D → Hh → R D) (y : Y) (o : OC) (Q : Y → OC → Prop) (X : XQ) : Prop := ∀ v d h, RY v d y → Sat v o h → PR RY v o h (g d h) Q X
def VO2 (g : D → D → Hh → R D) (x y : Y) (o : OC) (Q : Y → OC → Prop) (X : XQ) : Prop := ∀ v d d' h, RY v d x → RY v d' y → Sat v o h → PR RY v o h (g d d' h) Q X
def VM (g : D → List D → Hh → R D) (x : Y) (ys : List Y) (o : OC) (Q : Y → OC → Prop) (X : XQ) : Prop := ∀ v d ds h, RY v d x → RYs v ds ys → Sat v o h → PR RY v o h (g d ds h) Q X
abbrev noq : XQ := fun _ _ => False
abbrev nos : XS := fun _ _ _ => False
section
variable {α β γ δ : Type} {RA : Vw → α → β → Prop} {RB : Vw → γ → δ → Prop} {v v1 : Vw} {o o1 : OC} {h h1 : Hh} {X X' : XQ}
theorem PR.base {r : R α} {Q : β → OC → Prop} (f : Fr v o h v1 o1 h1) (p : PR RA v1 o1 h1 r Q X) : PR RA v o h r Q X := by
  cases r with
  | ok a h' => obtain ⟨v', o', b, f', s, ra, q⟩ := p; exact ⟨v', o', b, f.trans f', s, ra, q⟩
  | exc x h' => obtain ⟨v', o', b, f', s, ra, q⟩ := p; exact ⟨v', o', b, f.trans f', s, ra, q⟩
  | stuck => exact p
theorem PR.bind {r : R α} {f : α → Hh → R γ} {Q1 : β → OC → Prop} {Q : δ → OC → Prop} (p : PR RA v o h r Q1 X)
    (k : ∀ v1 o1 h1 a b, Fr v o h v1 o1 h1 → Sat v1 o1 h1 → RA v1 a b → Q1 b o1 → PR RB v1 o1 h1 (f a h1) Q X) : PR RB v o h (r.bind f) Q X := by
  cases r with
  | ok a h' => obtain ⟨v', o', b, f', s, ra, q⟩ := p; exact PR.base f' (k v' o' h' a b f' s ra q)
  | exc x h' => exact p
  | stuck => exact p
theorem PR.mono {r : R α} {Q Q' : β → OC → Prop} (p : PR RA v o h r Q X) (f : ∀ b o, Q b o → Q' b o) (g : ∀ y o, X y o → X' y o) : PR RA v o h r Q' X' := by
  cases r with
  | ok a h' => obtain ⟨v', o', b, f', s, ra, q⟩ := p; exact ⟨v', o', b, f', s, ra, f _ _ q⟩
  | exc x h' => obtain ⟨v', o', b, f', s, ra, q⟩ := p; exact ⟨v', o', b, f', s, ra, g _ _ q⟩
  | stuck => exact p
theorem PR.ok {a : α} {b : β} {Q : β → OC → Prop} (s : Sat v o h) (ra : RA v a b) (q : Q b o) : PR RA v o h (.ok a h) Q X := ⟨v, o, b, Fr.refl _ _ _, s, ra, q⟩
end
section
variable {E : Ey} {o : OC} {Q Q' : Y → OC → Prop} {Qb : Bool → OC → Prop} {Ql : List Y → OC → Prop} {X X' : XQ} {a b c : ED} {t u : TD} {as : AD} {f : FD}
theorem VE.mono (p : VE a E o Q X) (g : ∀ y o, Q y o → Q' y o) (k : ∀ y o, X y o → X' y o) : VE a E o Q' X' := fun v e h r s => (p v e h r s).mono g k
theorem VF.mono {ys : List Y} (p : VF f ys o Q X) (g : ∀ y o, Q y o → Q' y o) (k : ∀ y o, X y o → X' y o) : VF f ys o Q' X' := fun v e h r s => (p v e h r s).mono g k
theorem vE_c {d : D} {y : Y} (r : ∀ v, RY v d y) (q : Q y o) : VE (dC d) E o Q X := fun v e h re s => PR.ok s (r v) q
theorem vE_v {i : Nat} {y : Y} (hi : E[i]? = some (some y)) (q : Q y o) : VE (dV i) E o Q X := fun v e h re s => by
  obtain ⟨d, h1, h2⟩ := re.at_ i y hi
  unfold dV
  rw [h1]
  exact PR.ok s h2 q
theorem vE_B {op : Operator} (p : VE a E o (fun x o1 => VE b E o1 (fun y o2 => VO2 (bop op) x y o2 Q X) X) X) : VE (dB op a b) E o Q X := fun v e h re s =>
  (p v e h re s).bind fun v1 o1 h1 d y f1 s1 r1 p1 => (p1 v1 e h1 (re.mono f1.mono) s1).bind fun v2 o2 h2 d2 y2 f2 s2 r2 p2 => p2 v2 d d2 h2 (r1.mono f2.mono) r2 s2
theorem vE_Cmp {op : CmpOp} (p : VE a E o (fun x o1 => VE b E o1 (fun y o2 => VO2 (bcmp op) x y o2 Q X) X) X) : VE (dCmp op a b) E o Q X := fun v e h re s =>
  (p v e h re s).bind fun v1 o1 h1 d y f1 s1 r1 p1 => (p1 v1 e h1 (re.mono f1.mono) s1).bind fun v2 o2 h2 d2 y2 f2 s2 r2 p2 => p2 v2 d d2 h2 (r1.mono f2.mono) r2 s2
theorem vE_Ix (p : VE a E o (fun x o1 => VE b E o1 (fun y o2 => VO2 ixD x y o2 Q X) X) X) : VE (dIx a b) E o Q X := fun v e h re s =>
  (p v e h re s).bind fun v1 o1 h1 d y f1 s1 r1 p1 => (p1 v1 e h1 (re.mono f1.mono) s1).bind fun v2 o2 h2 d2 y2 f2 s2 r2 p2 => p2 v2 d d2 h2 (r1.mono f2.mono) r2 s2
theorem vE_U {op : UnaryOp} (p : VE a E o (fun x o1 => VO (uop op) x o1 Q X) X) : VE (dU op a) E o Q X := fun v e h re s =>
  (p v e h re s).bind fun v1 o1 h1 d y f1 s1 r1 p1 => p1 v1 d h1 r1 s1
theorem vA_N (q : Ql [] o) : VA aN E o Ql X := fun v e h re s => PR.ok s .nil q
theorem vA_C (p : VE a E o (fun y o1 => VA as E o1 (fun ys o2 => Ql (y :: ys) o2) X) X) : VA (aC a as) E o Ql X := fun v e h re s =>
  (p v e h re s).bind fun v1 o1 h1 d y f1 s1 r1 p1 => (p1 v1 e h1 (re.mono f1.mono) s1).bind fun v2 o2 h2 d2 y2 f2 s2 r2 p2 => PR.ok s2 (.cons (r1.mono f2.mono) r2) p2
theorem vE_Call0 (p : VA as E o (fun ys o1 => VF f ys o1 Q X) X) : VE (dCall f as []) E o Q X := fun v e h re s =>
  (p v e h re s).bind fun v1 o1 h1 d y f1 s1 r1 p1 => by rw [List.append_nil]; exact p1 v1 d h1 r1 s1
theorem vE_Tup (p : VA as E o (fun ys o1 => ys.length ≤ szl ∧ Q (.tup ys) o1) X) : VE (dTup as) E o Q X := fun v e h re s =>
  (p v e h re s).bind fun v1 o1 h1 d y f1 s1 r1 p1 => by
    rw [if_pos (by rw [r1.length]; exact p1.1)]
    exact PR.ok s1 (.tup r1) p1.2
def TB (y : Y) (o : OC) (Q : Bool → OC → Prop) : Prop := ∃ k, y = .bl k ∧ Q k o
def cnd (k : Bool) (A B : Prop) : Prop := if k = true then A else B
theorem cnd_n {A B : Prop} {k : Bool} (q : cnd k B A) : cnd (!k) A B := by cases k <;> exact q
theorem cnd_d {A B : Prop} {p : Prop} [Decidable p] (q1 : p → A) (q2 : ¬p → B) : cnd (decide p) A B := by
  by_cases z : p
  · rw [decide_eq_true z]; exact q1 z
  · rw [decide_eq_false z]; exact q2 z
theorem PR.blOf {γ δ : Type} {RB : Vw → γ → δ → Prop} {v : Vw} {h : Hh} {d : D} {y : Y} {f : Bool → Hh → R γ} {Q1 : δ → OC → Prop} {k : Bool} (r : RY v d y) (e : y = .bl k) (p : PR RB v o h (f k h) Q1 X) : PR RB v o h (blOf d h f) Q1 X := by
  subst e; cases r; exact p
theorem vT_B (p : VE a E o (fun x o1 => TB x o1 Qb) X) : VT (tB a) E o Qb X := fun v e h re s =>
  (p v e h re s).bind fun v1 o1 h1 d y f1 s1 r1 ⟨k, ey, p1⟩ => PR.blOf r1 ey (PR.ok s1 rfl p1)
theorem vT_Not (p : VT t E o (fun k o1 => Qb (!k) o1) X) : VT (tNot t) E o Qb X := fun v e h re s =>
  (p v e h re s).bind fun v1 o1 h1 d y f1 s1 r1 p1 => PR.ok s1 (by rw [r1]) p1
theorem vT_And (p : VT t E o (fun k o1 => cnd k (VT u E o1 Qb X) (Qb false o1)) X) : VT (tAnd t u) E o Qb X := fun v e h re s =>
  (p v e h re s).bind fun v1 o1 h1 d y f1 s1 r1 p1 => by
    subst r1
    cases d
    · exact PR.ok s1 rfl p1
    · exact p1 v1 e h1 (re.mono f1.mono) s1
theorem vT_Or (p : VT t E o (fun k o1 => cnd k (Qb true o1) (VT u E o1 Qb X)) X) : VT (tOr t u) E o Qb X := fun v e h re s =>
  (p v e h re s).bind fun v1 o1 h1 d y f1 s1 r1 p1 => by
    subst r1
    cases d
    · exact p1 v1 e h1 (re.mono f1.mono) s1
    · exact PR.ok s1 rfl p1
theorem vT_Y (q : Qb true o) : VT tY E o Qb X := fun v e h re s => PR.ok s rfl q
inductive At : OC → Nat → C → (C → OC) → Prop
  | here {n : Nat} {c : C} {o : OC} : At ((n, c) :: o) n c (fun c' => (n, c') :: o)
  | there {o : OC} {n : Nat} {c : C} {k : C → OC} {p : Nat × C} : At o n c k → At (p :: o) n c (fun c' => p :: k c')
theorem At.mem {o : OC} {n : Nat} {c : C} {k : C → OC} (a : At o n c k) : (n, c) ∈ o := by
  induction a with
  | here => exact .head _
  | there _ ih => exact .tail _ ih
theorem At.ks {o : OC} {n : Nat} {c : C} {k : C → OC} (a : At o n c k) (c' : C) : (k c').ks = o.ks := by
  induction a with
  | here => rfl
  | there _ ih => exact congrArg (_ :: ·) ih
theorem At.mem' {o : OC} {n : Nat} {c c' : C} {k : C → OC} (a : At o n c k) (nd : o.ks.Nodup) {q : Nat × C} (h : q ∈ k c') : q = (n, c') ∨ (q ∈ o ∧ q.1 ≠ n) := by
  induction a with
  | @here n c o =>
    rcases List.mem_cons.mp h with h | h
    · exact .inl h
    · refine .inr ⟨.tail _ h, fun e => ?_⟩
      have := (List.nodup_cons.mp nd).1
      exact this (e ▸ List.mem_map_of_mem (f := (·.1)) h)
  | @there o n c k p a ih =>
    have nd' := List.nodup_cons.mp nd
    rcases List.mem_cons.mp h with h | h
    · subst h
      refine .inr ⟨.head _, fun e => nd'.1 ?_⟩
      show q.1 ∈ _
      rw [e]
      exact List.mem_map_of_mem (f := (·.1)) a.mem
    · rcases ih nd'.2 h with h | ⟨h1, h2⟩
      · exact .inl h
      · exact .inr ⟨.tail _ h1, h2⟩
inductive Ls (o : OC) : Y → List Y → Prop
  | lst (ys : List Y) : Ls o (.lst ys) ys
  | frz (ys : List Y) : Ls o (.frz ys) ys
  | own {n : Nat} {ys : List Y} {k : C → OC} : At o n (.lst ys) k → Ls o (.own n) ys
theorem Ls.get {o : OC} {y : Y} {ys : List Y} (l : Ls o y ys) {v : Vw} {h : Hh} (s : Sat v o h) {d : D} (r : RY v d y) : ∃ n ds, d = .ref n ∧ lstAt h n = some ds ∧ RYs v ds ys := by
  cases l with
  | lst ys =>
    cases r with
    | lst e q => exact ⟨_, _, rfl, by unfold lstAt; rw [s.vw _ _ e], q⟩
  | frz ys =>
    cases r with
    | frz e q => exact ⟨_, _, rfl, by unfold lstAt; rw [s.vw _ _ e], q⟩
  | own a =>
    cases r with
    | own =>
      obtain ⟨x, e, _, rc⟩ := s.oc _ a.mem
      cases rc with
      | lst q => exact ⟨_, _, rfl, by unfold lstAt; rw [e], q⟩
def TR (y : Y) (o : OC) (Q : Bool → OC → Prop) : Prop := ∀ v d h, RY v d y → Sat v o h → ∃ k, truth d h = some k ∧ Q k o
theorem tr_b {k : Bool} (q : Qb k o) : TR (.bl k) o Qb := fun v d h r s => by cases r; exact ⟨_, rfl, q⟩
theorem vT_E (p : VE a E o (fun x o1 => TR x o1 Qb) X) : VT (tE a) E o Qb X := fun v e h re s =>
  (p v e h re s).bind fun v1 o1 h1 d y f1 s1 r1 p1 => by
    obtain ⟨k, ek, q⟩ := p1 v1 d h1 r1 s1
    rw [ek]
    exact PR.ok s1 rfl q
theorem vE_AndT (p : VE a E o (fun x o1 => TR x o1 fun k o1 => cnd k (VE b E o1 Q X) (Q x o1)) X) : VE (dAndT a b) E o Q X := fun v e h re s =>
  (p v e h re s).bind fun v1 o1 h1 d y f1 s1 r1 p1 => by
    obtain ⟨k, ek, q⟩ := p1 v1 d h1 r1 s1
    rw [ek]
    cases k
    · exact PR.ok s1 r1 q
    · exact q v1 e h1 (re.mono f1.mono) s1
theorem Sat.new {v : Vw} {o : OC} {h : Hh} {x : O} (s : Sat v o h) : v h.length = none ∧ h.length ∉ o.ks := by
  refine ⟨?_, fun m => ?_⟩
  · cases e : v h.length with
    | none => rfl
    | some x => have := s.vw _ _ e; simp at this
  · obtain ⟨p, hp, e⟩ := List.mem_map.mp m
    obtain ⟨x, h1, _⟩ := s.oc p hp
    rw [e] at h1
    simp at h1
theorem app_old {h : Hh} {x y : O} {n : Nat} (e : h[n]? = some y) : (h ++ [x])[n]? = some y := by
  rw [List.getElem?_append_left (List.getElem?_eq_some_iff.mp e).1]; exact e
theorem app_new {h : Hh} {x : O} : (h ++ [x])[h.length]? = some x := by simp
theorem Sat.fz {v : Vw} {o : OC} {h : Hh} {x : O} (s : Sat v o h) : ∃ v', Fr v o h v' o (h ++ [x]) ∧ Sat v' o (h ++ [x]) ∧ v' h.length = some x := by
  obtain ⟨n1, n2⟩ := s.new (x := x)
  have vl : Vle v (fun n => if n = h.length then some x else v n) := fun n y e => by
    by_cases z : n = h.length
    · subst z; rw [n1] at e; cases e
    · simp only [if_neg z]; exact e
  refine ⟨fun n => if n = h.length then some x else v n, ⟨vl, fun n y e k => ⟨app_old e, if_neg (fun z => ?_), k⟩⟩, ⟨fun n y e => ?_, fun p hp => ?_, s.nd⟩, if_pos rfl⟩
  · subst z; simp at e
  · by_cases z : n = h.length
    · subst z; simp only [if_pos] at e; cases e; exact app_new
    · simp only [if_neg z] at e; exact app_old (s.vw _ _ e)
  · obtain ⟨y, h1, h2, h3⟩ := s.oc p hp
    refine ⟨y, app_old h1, ?_, h3.mono vl⟩
    have : p.1 ≠ h.length := fun z => by rw [z] at h1; simp at h1
    simp only [if_neg this]; exact h2
theorem Sat.nw {v : Vw} {o : OC} {h : Hh} {x : O} {c : C} (s : Sat v o h) (r : RC v x c) : Fr v o h v ((h.length, c) :: o) (h ++ [x]) ∧ Sat v ((h.length, c) :: o) (h ++ [x]) := by
  obtain ⟨n1, n2⟩ := s.new (x := x)
  refine ⟨⟨fun _ _ e => e, fun n y e k => ⟨app_old e, rfl, fun m => ?_⟩⟩, ⟨fun n y e => app_old (s.vw _ _ e), fun p hp => ?_, List.nodup_cons.mpr ⟨n2, s.nd⟩⟩⟩
  · rcases List.mem_cons.mp m with m | m
    · subst m; simp at e
    · exact k m
  · rcases List.mem_cons.mp hp with hp | hp
    · subst hp; exact ⟨x, app_new, n1, r⟩
    · obtain ⟨y, h1, h2, h3⟩ := s.oc p hp
      exact ⟨y, app_old h1, h2, h3⟩
def NL (own : Bool) (ys : List Y) (o : OC) (Q : Y → OC → Prop) : Prop := if own = true then ∀ n, n ∉ o.ks → Q (.own n) ((n, .lst ys) :: o) else Q (.lst ys) o
theorem NL.fz {ys : List Y} (q : Q (.lst ys) o) : NL false ys o Q := q
theorem NL.ow {ys : List Y} (q : ∀ n, n ∉ o.ks → Q (.own n) ((n, .lst ys) :: o)) : NL true ys o Q := q
theorem NL.out {own : Bool} {ys : List Y} (q : NL own ys o Q) {v : Vw} {h : Hh} {ds : List D} (s : Sat v o h) (r : RYs v ds ys) : PR RY v o h (.ok (.ref h.length) (h ++ [.lst ds])) Q X := by
  cases own with
  | false =>
    obtain ⟨v', f, s', e⟩ := s.fz (x := .lst ds)
    exact ⟨v', o, .lst ys, f, s', .lst e (r.mono f.mono), q⟩
  | true =>
    obtain ⟨f, s'⟩ := s.nw (RC.lst r)
    exact ⟨v, _, .own h.length, f, s', .own, q _ (s.new (x := .lst ds)).2⟩
theorem vE_Lst (own : Bool) (p : VA as E o (fun ys o1 => ys.length ≤ szl ∧ NL own ys o1 Q) X) : VE (dLst as) E o Q X := fun v e h re s =>
  (p v e h re s).bind fun v1 o1 h1 d y f1 s1 r1 p1 => by
    rw [if_pos (by rw [r1.length]; exact p1.1)]
    exact p1.2.out s1 r1
inductive Rm : OC → Nat → C → OC → Prop
  | here {n : Nat} {c : C} {o : OC} : Rm ((n, c) :: o) n c o
  | there {o o' : OC} {n : Nat} {c : C} {p : Nat × C} : Rm o n c o' → Rm (p :: o) n c (p :: o')
theorem Rm.mem {o o' : OC} {n : Nat} {c : C} (a : Rm o n c o') : (n, c) ∈ o := by
  induction a with
  | here => exact .head _
  | there _ ih => exact .tail _ ih
theorem Rm.sub {o o' : OC} {n : Nat} {c : C} (a : Rm o n c o') : o'.Sublist o := by
  induction a with
  | here => exact List.sublist_cons_self _ _
  | there _ ih => exact ih.cons₂ _
theorem Rm.ne {o o' : OC} {n : Nat} {c : C} (a : Rm o n c o') (nd : o.ks.Nodup) : n ∉ o'.ks := by
  induction a with
  | here => exact (List.nodup_cons.mp nd).1
  | @there o o' n c p a ih =>
    have nd' := List.nodup_cons.mp nd
    intro m
    rcases List.mem_cons.mp m with m | m
    · subst m; exact nd'.1 (List.mem_map_of_mem (f := (·.1)) a.mem)
    · exact ih nd'.2 m
end
end Mn
namespace Mn
open PySem
mutual
def pdY : Y → PyData
  | .non => .none
  | .bl b => .bool b
  | .int i => .int i
  | .str s => .str s
  | .tup ys => .tuple (pdYs ys)
  | .lst ys => .list (pdYs ys)
  | .frz ys => .list (pdYs ys)
  | .ins _ _ => .none
  | .own _ => .none
  | .rg _ _ => .none
def pdYs : List Y → List PyData
  | [] => []
  | y :: ys => pdY y :: pdYs ys
end
def eqY (x y : Y) : Bool := PyData.eqv (pdY x) (pdY y)
section
variable {E : Ey} {o : OC} {Q Q' : Y → OC → Prop} {X X' : XQ} {i j : Int} {x y : Y} {ys zs : List Y} {s s' : Str}
theorem b_add (q : Q (.int (i + j)) o) : VO2 (bop .Add) (.int i) (.int j) o Q X := fun v d d' h r r' s => by cases r; cases r'; exact PR.ok s (.int _) q
theorem b_sub (q : Q (.int (i - j)) o) : VO2 (bop .Sub) (.int i) (.int j) o Q X := fun v d d' h r r' s => by cases r; cases r'; exact PR.ok s (.int _) q
theorem b_mul (c : cMul i j) (q : Q (.int (i * j)) o) : VO2 (bop .Mult) (.int i) (.int j) o Q X := fun v d d' h r r' s => by cases r; cases r'; show PR RY v o h (ite _ _ _) Q X; rw [if_pos c]; exact PR.ok s (.int _) q
theorem b_div (c : cDiv j) (q : Q (.int (i.fdiv j)) o) : VO2 (bop .FloorDiv) (.int i) (.int j) o Q X := fun v d d' h r r' s => by cases r; cases r'; show PR RY v o h (ite _ _ _) Q X; rw [if_pos c]; exact PR.ok s (.int _) q
theorem b_mod (c : j ≠ 0) (q : Q (.int (i.fmod j)) o) : VO2 (bop .Mod) (.int i) (.int j) o Q X := fun v d d' h r r' s => by cases r; cases r'; show PR RY v o h (ite _ _ _) Q X; rw [if_pos c]; exact PR.ok s (.int _) q
theorem b_pow (c : cPow i j) (q : Q (.int (i ^ j.toNat)) o) : VO2 (bop .Pow) (.int i) (.int j) o Q X := fun v d d' h r r' s => by cases r; cases r'; show PR RY v o h (ite _ _ _) Q X; rw [if_pos c]; exact PR.ok s (.int _) q
theorem b_addS (c : s.length + s'.length ≤ szl) (q : Q (.str (s ++ s')) o) : VO2 (bop .Add) (.str s) (.str s') o Q X := fun v d d' h r r' sa => by cases r; cases r'; show PR RY v o h (ite _ _ _) Q X; rw [if_pos c]; exact PR.ok sa (.str _) q
theorem b_mulS (c : 2 ≤ i ∧ i ≤ 10000 ∧ 1 ≤ s.length ∧ s.length ≤ 1000) (q : Q (.str (repS s i.toNat)) o) : VO2 (bop .Mult) (.str s) (.int i) o Q X := fun v d d' h r r' sa => by cases r; cases r'; show PR RY v o h (ite _ _ _) Q X; rw [if_pos c]; exact PR.ok sa (.str _) q
theorem u_neg (q : Q (.int (-i)) o) : VO (uop .USub) (.int i) o Q X := fun v d h r s => by cases r; exact PR.ok s (.int _) q
theorem c_lt (q : Q (.bl (decide (i < j))) o) : VO2 (bcmp .Lt) (.int i) (.int j) o Q X := fun v d d' h r r' s => by cases r; cases r'; exact PR.ok s (.bl _) q
theorem c_le (q : Q (.bl (decide (i ≤ j))) o) : VO2 (bcmp .LtE) (.int i) (.int j) o Q X := fun v d d' h r r' s => by cases r; cases r'; exact PR.ok s (.bl _) q
theorem c_gt (q : Q (.bl (decide (j < i))) o) : VO2 (bcmp .Gt) (.int i) (.int j) o Q X := fun v d d' h r r' s => by cases r; cases r'; exact PR.ok s (.bl _) q
theorem c_ge (q : Q (.bl (decide (j ≤ i))) o) : VO2 (bcmp .GtE) (.int i) (.int j) o Q X := fun v d d' h r r' s => by cases r; cases r'; exact PR.ok s (.bl _) q
theorem c_eqI (q : Q (.bl (decide (i = j))) o) : VO2 (bcmp .Eq) (.int i) (.int j) o Q X := fun v d d' h r r' s => by cases r; cases r'; exact PR.ok s (.bl _) q
theorem c_neI (q : Q (.bl (!decide (i = j))) o) : VO2 (bcmp .NotEq) (.int i) (.int j) o Q X := fun v d d' h r r' s => by cases r; cases r'; exact PR.ok s (.bl _) q
theorem c_eqS (q : Q (.bl (decide (s = s'))) o) : VO2 (bcmp .Eq) (.str s) (.str s') o Q X := fun v d d' h r r' s => by cases r; cases r'; exact PR.ok s (.bl _) q
theorem c_neS (q : Q (.bl (!decide (s = s'))) o) : VO2 (bcmp .NotEq) (.str s) (.str s') o Q X := fun v d d' h r r' s => by cases r; cases r'; exact PR.ok s (.bl _) q
theorem c_eqB {a b : Bool} (q : Q (.bl (decide (a = b))) o) : VO2 (bcmp .Eq) (.bl a) (.bl b) o Q X := fun v d d' h r r' s => by cases r; cases r'; exact PR.ok s (.bl _) q
def isNonY : Y → Bool
  | .non => true
  | _ => false
theorem isNon_Y {v : Vw} {d : D} (r : RY v d x) : isNon d = isNonY x := by cases r <;> rfl
theorem c_is (q : Q (.bl (isNonY x)) o) : VO2 (bcmp .Is) x .non o Q X := fun v d d' h r r' s => by
  cases r'
  have e := isNon_Y r
  cases r <;> (rw [← e] at q; exact PR.ok s (.bl _) q)
theorem c_inS (q : Q (.bl (!(Builtin.Str.occurrences s' s 0 s'.length 1).isEmpty)) o) : VO2 (bcmp .In) (.str s) (.str s') o Q X := fun v d d' h r r' s => by cases r; cases r'; exact PR.ok s (.bl _) q
theorem vE_Ch {op op' : CmpOp} {a b c : ED} (p : VE a E o (fun x o1 => VE b E o1 (fun y o2 => VO2 (bcmp op) x y o2 (fun z o3 => TB z o3 fun k o3 => cnd k (VE c E o3 (fun w o4 => VO2 (bcmp op') y w o4 Q X) X) (Q (.bl false) o3)) X) X) X) : VE (dCh op op' a b c) E o Q X := fun v e h re s =>
  (p v e h re s).bind fun v1 o1 h1 d y f1 s1 r1 p1 => (p1 v1 e h1 (re.mono f1.mono) s1).bind fun v2 o2 h2 d2 y2 f2 s2 r2 p2 => (p2 v2 d d2 h2 (r1.mono f2.mono) r2 s2).bind fun v3 o3 h3 d3 y3 f3 s3 r3 ⟨k, ek, p3⟩ => PR.blOf r3 ek (by
    cases k
    · exact PR.ok s3 (.bl _) p3
    · exact (p3 v3 e h3 (((re.mono f1.mono).mono f2.mono).mono f3.mono) s3).bind fun v4 o4 h4 d4 y4 f4 s4 r4 p4 => p4 v4 d2 d4 h4 ((r2.mono f3.mono).mono f4.mono) r4 s4)
theorem atI_Y {v : Vw} {ds : List D} (r : RYs v ds ys) (e : L2.atI ys i = some y) : ∃ d, L2.atI ds i = some d ∧ RY v d y := by
  unfold L2.atI at e ⊢
  rw [r.length]
  cases q : L2.ixN ys.length i with
  | none => rw [q] at e; cases e
  | some j =>
    rw [q] at e
    exact r.get e
theorem x_tup (e : L2.atI ys i = some y) (q : Q y o) : VO2 ixD (.tup ys) (.int i) o Q X := fun v d d' h r r' s => by
  cases r with
  | tup rs =>
    cases r'
    obtain ⟨z, ez, rz⟩ := atI_Y rs e
    dsimp only [ixD]
    rw [ez]
    exact PR.ok s rz q
theorem x_lst (l : Ls o x ys) (e : L2.atI ys i = some y) (q : Q y o) : VO2 ixD x (.int i) o Q X := fun v d d' h r r' s => by
  obtain ⟨n, ds, rfl, e1, rs⟩ := l.get s r
  cases r'
  obtain ⟨z, ez, rz⟩ := atI_Y rs e
  dsimp only [ixD]
  rw [e1]
  simp only
  rw [ez]
  exact PR.ok s rz q
theorem x_str {c : Nat} (hl : s.length ≤ szl) (e : L2.atI s.cps.toList i = some c) (q : Q (.str ⟨#[c]⟩) o) : VO2 ixD (.str s) (.int i) o Q X := fun v d d' h r r' sa => by
  cases r; cases r'
  dsimp only [ixD]
  rw [if_pos hl, e]
  exact PR.ok sa (.str _) q
theorem ixN_nat {n k : Nat} (h : k < n) : L2.ixN n (k : Int) = some k := by
  unfold L2.ixN
  simp [h]
theorem atI_nat {k : Nat} (e : ys[k]? = some y) : L2.atI ys (k : Int) = some y := by
  unfold L2.atI
  rw [ixN_nat (List.getElem?_eq_some_iff.mp e).1]
  exact e
theorem f_len (l : Ls o x ys) (q : Q (.int ys.length) o) : VF fLen [x] o Q X := fun v ds h r s => by
  cases r with
  | cons r1 r2 =>
    cases r2
    obtain ⟨n, ds, rfl, e1, rs⟩ := l.get s r1
    show PR RY v o h (match lstAt h n with | some xs => _ | none => _) Q X
    rw [e1]
    simp only
    rw [rs.length]
    exact PR.ok s (.int _) q
theorem f_lenT (q : Q (.int ys.length) o) : VF fLen [.tup ys] o Q X := fun v ds h r s => by
  cases r with
  | cons r1 r2 =>
    cases r2
    cases r1 with
    | tup rs =>
      show PR RY v o h (.ok (.int _) h) Q X
      rw [rs.length]
      exact PR.ok s (.int _) q
theorem f_lenS (hl : s.length ≤ szl) (q : Q (.int s.length) o) : VF fLen [.str s] o Q X := fun v ds h r sa => by
  cases r with
  | cons r1 r2 =>
    cases r2
    cases r1
    show PR RY v o h (if s.length ≤ szl then _ else _) Q X
    rw [if_pos hl]
    exact PR.ok sa (.int _) q
theorem f_abs (q : Q (.int (if i < 0 then -i else i)) o) : VF fAbs [.int i] o Q X := fun v ds h r s => by
  cases r with | cons r1 r2 => cases r2; cases r1; exact PR.ok s (.int _) q
theorem f_int (q : Q (.int i) o) : VF fInt [.int i] o Q X := fun v ds h r s => by
  cases r with | cons r1 r2 => cases r2; cases r1; exact PR.ok s (.int _) q
theorem f_strL (c : i.natAbs < 10 ^ 4300) (q : Q (.str (toString i)) o) : VF fStrL [.int i] o Q X := fun v ds h r s => by
  cases r with
  | cons r1 r2 =>
    cases r2; cases r1
    show PR RY v o h (if i.natAbs < 10 ^ 4300 then _ else _) Q X
    rw [if_pos c]
    exact PR.ok s (.str _) q
theorem f_gcd (q : Q (.int ((Nat.gcd i.natAbs j.natAbs : Nat) : Int)) o) : VF fGcd [.int i, .int j] o Q X := fun v ds h r s => by
  cases r with | cons r1 r2 => cases r2 with | cons r2 r3 => cases r3; cases r1; cases r2; exact PR.ok s (.int _) q
theorem f_list (own : Bool) (l : Ls o x ys) (q : NL own ys o Q) : VF fList [x] o Q X := fun v ds h r s => by
  cases r with
  | cons r1 r2 =>
    cases r2
    obtain ⟨n, ds, rfl, e1, rs⟩ := l.get s r1
    show PR RY v o h (match lstAt h n with | some xs => _ | none => _) Q X
    rw [e1]
    exact q.out s rs
theorem bls_Y {v : Vw} : ∀ {ds : List D} {ns : List Bool}, RYs v ds (ns.map .bl) → blsOf ds = some ns
  | _, [], .nil => rfl
  | _, n :: ns, .cons (.bl _) r => by show (blsOf _).map _ = _; rw [bls_Y r]; rfl
theorem f_all {ns : List Bool} (l : Ls o x (ns.map .bl)) (q : Q (.bl (ns.all id)) o) : VF fAll [x] o Q X := fun v ds h r s => by
  cases r with
  | cons r1 r2 =>
    cases r2
    obtain ⟨n, ds, rfl, e1, rs⟩ := l.get s r1
    show PR RY v o h (match (lstAt h n).bind blsOf with | some xs => _ | none => _) Q X
    rw [e1, Option.bind_some, bls_Y rs]
    exact PR.ok s (.bl _) q
def isTyY (t : Ty) : Y → Bool
  | .non => false
  | .bl _ => match t with | .int => true | .bool => true | _ => false
  | .int _ => match t with | .int => true | _ => false
  | .str _ => match t with | .str => true | _ => false
  | .tup _ => match t with | .tuple => true | _ => false
  | .lst _ => match t with | .list => true | _ => false
  | .frz _ => match t with | .list => true | _ => false
  | _ => false
def plY : Y → Bool
  | .own _ | .ins _ _ | .rg _ _ => false
  | _ => true
theorem vE_Is {t : Ty} {a : ED} (p : VE a E o (fun x o1 => plY x = true ∧ Q (.bl (isTyY t x)) o1) X) : VE (dIs t a) E o Q X := fun v e h re s =>
  (p v e h re s).bind fun v1 o1 h1 d y f1 s1 r1 ⟨pl, q⟩ => by
    have : isTy t d h1 = some (isTyY t y) := by
      cases r1 with
      | lst e r => show (lstAt _ _).map _ = _; unfold lstAt; rw [s1.vw _ _ e]; rfl
      | frz e r => show (lstAt _ _).map _ = _; unfold lstAt; rw [s1.vw _ _ e]; rfl
      | ins _ _ => cases pl
      | own => cases pl
      | rg => cases pl
      | _ => rfl
    rw [this]
    exact PR.ok s1 (.bl _) q
end
end Mn
namespace Mn
open PySem
section
variable {E E1 : Ey} {o o1 o2 : OC} {Q Q' : Y → OC → Prop} {X X' : XQ} {i j : Int} {x y z : Y} {ys zs : List Y} {s s' : Str} {n : Nat} {c c' : C} {k : C → OC}
theorem Sat.put {v : Vw} {h : Hh} {w : O} (s : Sat v o h) (a : At o n c k) (r : RC v w c') : Fr v o h v (k c') (h.set n w) ∧ Sat v (k c') (h.set n w) := by
  obtain ⟨x, e1, e2, _⟩ := s.oc _ a.mem
  have hl := (List.getElem?_eq_some_iff.mp e1).1
  have nm : ∀ m, m ∉ o.ks → n ≠ m := fun m hm z => hm (z ▸ List.mem_map_of_mem (f := (·.1)) a.mem)
  refine ⟨⟨fun _ _ z => z, fun m x e hm => ⟨?_, rfl, ?_⟩⟩, ⟨fun m x e => ?_, fun p hp => ?_, ?_⟩⟩
  · rw [List.getElem?_set_ne (nm m hm)]; exact e
  · show m ∉ (k c').ks
    rw [a.ks]; exact hm
  · have : n ≠ m := fun z => by subst z; rw [e] at e2; cases e2
    rw [List.getElem?_set_ne this]
    exact s.vw _ _ e
  · rcases a.mem' s.nd hp with e | ⟨h1, h2⟩
    · subst e
      exact ⟨w, List.getElem?_set_self hl, e2, r⟩
    · obtain ⟨u, g1, g2, g3⟩ := s.oc p h1
      exact ⟨u, by rw [List.getElem?_set_ne (fun z => h2 z.symm)]; exact g1, g2, g3⟩
  · show (k c').ks.Nodup
    rw [a.ks]; exact s.nd
theorem Sat.own {v : Vw} {h : Hh} (s : Sat v o h) (a : At o n (.lst ys) k) : ∃ ds, h[n]? = some (.lst ds) ∧ RYs v ds ys := by
  obtain ⟨x, e1, e2, r⟩ := s.oc _ a.mem
  cases r with
  | lst r => exact ⟨_, e1, r⟩
def Chk (c : D → Hh → Bool) (x : Y) (o : OC) : Prop := ∀ v d h, RY v d x → Sat v o h → c d h = true
theorem chk_S : Chk chkS (.str s) o := fun v d h r _ => by cases r; rfl
theorem vE_M {ck : D → Hh → Bool} {f : D → List D → Hh → R D} {a : ED} {as : AD} (p : VE a E o (fun x o1 => Chk ck x o1 ∧ VA as E o1 (fun ys o2 => VM f x ys o2 Q X) X) X) : VE (dM ck f a as) E o Q X := fun v e h re s =>
  (p v e h re s).bind fun v1 o1 h1 d y f1 s1 r1 p1 => by
    rw [if_pos (p1.1 v1 d h1 r1 s1)]
    exact (p1.2 v1 e h1 (re.mono f1.mono) s1).bind fun v2 o2 h2 ds ys f2 s2 r2 p2 => p2 v2 d ds h2 (r1.mono f2.mono) r2 s2
variable {Z : ZQ} {W : XS}
theorem PSR.base {v v1 : Vw} {h h1 : Hh} {r : RS} (f : Fr v o h v1 o1 h1) (p : PSR v1 o1 h1 r Z W) : PSR v o h r Z W := by
  cases r with
  | go fl e h' => cases fl with
    | nx => obtain ⟨v', o', b, f', s, ra, q⟩ := p; exact ⟨v', o', b, f.trans f', s, ra, q⟩
    | bk => obtain ⟨v', o', b, f', s, ra, q⟩ := p; exact ⟨v', o', b, f.trans f', s, ra, q⟩
    | ct => obtain ⟨v', o', b, f', s, ra, q⟩ := p; exact ⟨v', o', b, f.trans f', s, ra, q⟩
    | rt d => obtain ⟨v', o', b, y, f', s, ra, q⟩ := p; exact ⟨v', o', b, y, f.trans f', s, ra, q⟩
  | exc x e h' => obtain ⟨v', o', b, y, f', s, ra, q⟩ := p; exact ⟨v', o', b, y, f.trans f', s, ra, q⟩
  | stuck => exact p
theorem PSR.mono {Z' : ZQ} {W' : XS} {v : Vw} {h : Hh} {r : RS} (p : PSR v o h r Z W) (f : ∀ l E o, Z l E o → Z' l E o) (g : ∀ l E o, W l E o → W' l E o) : PSR v o h r Z' W' := by
  cases r with
  | go fl e h' => cases fl with
    | nx => obtain ⟨v', o', b, f', s, ra, q⟩ := p; exact ⟨v', o', b, f', s, ra, f _ _ _ q⟩
    | bk => obtain ⟨v', o', b, f', s, ra, q⟩ := p; exact ⟨v', o', b, f', s, ra, f _ _ _ q⟩
    | ct => obtain ⟨v', o', b, f', s, ra, q⟩ := p; exact ⟨v', o', b, f', s, ra, f _ _ _ q⟩
    | rt d => obtain ⟨v', o', b, y, f', s, ra, ry, q⟩ := p; exact ⟨v', o', b, y, f', s, ra, ry, f _ _ _ q⟩
  | exc x e h' => obtain ⟨v', o', b, y, f', s, ra, ry, q⟩ := p; exact ⟨v', o', b, y, f', s, ra, ry, g _ _ _ q⟩
  | stuck => exact p
theorem VS.mono {Z' : ZQ} {W' : XS} {t : SD} (p : VS t E o Z W) (f : ∀ l E o, Z l E o → Z' l E o) (g : ∀ l E o, W l E o → W' l E o) : VS t E o Z' W' := fun v e h re s => (p v e h re s).mono f g
theorem PR.toS {α β : Type} {RA : Vw → α → β → Prop} {v : Vw} {h : Hh} {r : R α} {e : Ev} {f : α → Hh → RS} {Q1 : β → OC → Prop} (re : REy v e E) (p : PR RA v o h r Q1 (fun x o => W x E o))
    (k : ∀ v1 o1 h1 a b, Fr v o h v1 o1 h1 → Sat v1 o1 h1 → RA v1 a b → Q1 b o1 → PSR v1 o1 h1 (f a h1) Z W) : PSR v o h (r.toS e f) Z W := by
  cases r with
  | ok a h' => obtain ⟨v', o', b, f', s, ra, q⟩ := p; exact PSR.base f' (k v' o' h' a b f' s ra q)
  | exc x h' => obtain ⟨v', o', y, f', s, ra, q⟩ := p; exact ⟨v', o', E, y, f', s, re.mono f'.mono, ra, q⟩
  | stuck => exact p
abbrev xe (W : XS) (E : Ey) : XQ := fun x o => W x E o
theorem vs_nx (q : Z .nx E o) : VS sNx E o Z W := fun v e h re s => ⟨v, o, E, Fr.refl _ _ _, s, re, q⟩
theorem vs_ex {a : ED} (p : VE a E o (fun _ o1 => Z .nx E o1) (xe W E)) : VS (sEx a) E o Z W := fun v e h re s =>
  PR.toS re (p v e h re s) fun v1 o1 h1 d y f1 s1 r1 q => ⟨v1, o1, E, Fr.refl _ _ _, s1, re.mono f1.mono, q⟩
theorem vs_rt {a : ED} (p : VE a E o (fun y o1 => Z (.rt y) E o1) (xe W E)) : VS (sRt a) E o Z W := fun v e h re s =>
  PR.toS re (p v e h re s) fun v1 o1 h1 d y f1 s1 r1 q => ⟨v1, o1, E, y, Fr.refl _ _ _, s1, re.mono f1.mono, r1, q⟩
def sqK (t : SD) (Z : ZQ) (W : XS) : ZQ := fun f E o => match f with
  | .nx => VS t E o Z W
  | f => Z f E o
theorem sq_nx {t : SD} (q : VS t E o Z W) : sqK t Z W .nx E o := q
theorem sq_rt {t : SD} (q : Z (.rt y) E o) : sqK t Z W (.rt y) E o := q
theorem vs_sq {a b : SD} (p : VS a E o (sqK b Z W) W) : VS (sSq a b) E o Z W := fun v e h re s => by
  have p := p v e h re s
  unfold sSq
  cases q : a e h with
  | go fl e1 h1 =>
    rw [q] at p
    cases fl with
    | nx =>
      obtain ⟨v', o', b', f', s', ra, q'⟩ := p
      exact PSR.base f' (q' v' e1 h1 ra s')
    | bk => exact p
    | ct => exact p
    | rt d => exact p
  | exc x e1 h1 => rw [q] at p; exact p
  | stuck => rw [q] at p; exact p
theorem vs_if {t : TD} {a b : SD} (p : VT t E o (fun k o1 => cnd k (VS a E o1 Z W) (VS b E o1 Z W)) (xe W E)) : VS (sIf t a b) E o Z W := fun v e h re s =>
  PR.toS re (p v e h re s) fun v1 o1 h1 d y f1 s1 r1 q => by
    subst r1
    cases d
    · exact q v1 e h1 (re.mono f1.mono) s1
    · exact q v1 e h1 (re.mono f1.mono) s1
def TgY (tg : Tg) (y : Y) (E E1 : Ey) : Prop := ∀ v d e, RY v d y → REy v e E → ∃ e1, tg d e = some e1 ∧ REy v e1 E1
theorem tg_n {m : Nat} : TgY (gN m) y E (E.set m (some y)) := fun v d e r re => ⟨_, rfl, re.set m r⟩
def setY : Ey → List Nat → List Y → Ey
  | E, i :: is, y :: ys => setY (E.set i (some y)) is ys
  | E, _, _ => E
theorem vs_as {a : ED} {tg : Tg} (p : VE a E o (fun y o1 => ∃ E1, TgY tg y E E1 ∧ Z .nx E1 o1) (xe W E)) : VS (sAs a (ofG tg)) E o Z W := fun v e h re s =>
  PR.toS re (p v e h re s) fun v1 o1 h1 d y f1 s1 r1 ⟨E1, t1, q⟩ => by
    obtain ⟨e1, t2, re1⟩ := t1 v1 d e r1 (re.mono f1.mono)
    unfold ofG
    rw [t2]
    exact ⟨v1, o1, E1, Fr.refl _ _ _, s1, re1, q⟩
theorem vs_asN {a : ED} {m : Nat} (p : VE a E o (fun y o1 => Z .nx (E.set m (some y)) o1) (xe W E)) : VS (sAs a (ofG (gN m))) E o Z W :=
  vs_as (p.mono (fun y o q => ⟨_, tg_n, q⟩) fun _ _ q => q)
def VSet (x i d : Y) (o : OC) (q : OC → Prop) : Prop := ∀ v dx di dd h, RY v dx x → RY v di i → RY v dd d → Sat v o h → ∃ v' o' h', setD dx di dd h = .ok () h' ∧ Fr v o h v' o' h' ∧ Sat v' o' h' ∧ q o'
theorem st_own {m : Nat} {q : OC → Prop} (a : At o n (.lst ys) k) (hi : L2.ixN ys.length i = some m) (p : q (k (.lst (ys.set m y)))) : VSet (.own n) (.int i) y o q := fun v dx di dd h r1 r2 r3 s => by
  cases r1; cases r2
  obtain ⟨xs, e, rx⟩ := s.own a
  obtain ⟨f, s'⟩ := s.put a (RC.lst (rx.set m r3))
  refine ⟨v, _, _, ?_, f, s', p⟩
  dsimp only [setD]
  rw [e]
  simp only
  rw [rx.length, hi]
theorem vs_asI {a b c : ED} (p : VE a E o (fun d o1 => VE b E o1 (fun x o2 => VE c E o2 (fun i o3 => VSet x i d o3 (fun o4 => Z .nx E o4)) (xe W E)) (xe W E)) (xe W E)) : VS (sAs a (gIx b c)) E o Z W := fun v e h re s =>
  PR.toS re (p v e h re s) fun v1 o1 h1 d y f1 s1 r1 p1 => by
    have p1 := p1 v1 e h1 (re.mono f1.mono) s1
    unfold gIx
    cases q1 : b e h1 with
    | stuck => rw [q1] at p1; exact p1.elim
    | exc x h2 =>
      rw [q1] at p1
      obtain ⟨v2, o2, y2, f2, s2, r2, p2⟩ := p1
      exact ⟨v2, o2, E, y2, f2, s2, (re.mono f1.mono).mono f2.mono, r2, p2⟩
    | ok d2 h2 =>
      rw [q1] at p1
      obtain ⟨v2, o2, y2, f2, s2, r2, p2⟩ := p1
      refine PSR.base f2 ?_
      have p2 := p2 v2 e h2 ((re.mono f1.mono).mono f2.mono) s2
      show PSR v2 o2 h2 (((c e h2).bind fun y h3 => _).toS e _) Z W
      cases q2 : c e h2 with
      | stuck => rw [q2] at p2; exact p2.elim
      | exc x h3 =>
        rw [q2] at p2
        obtain ⟨v3, o3, y3, f3, s3, r3, p3⟩ := p2
        exact ⟨v3, o3, E, y3, f3, s3, ((re.mono f1.mono).mono f2.mono).mono f3.mono, r3, p3⟩
      | ok d3 h3 =>
        rw [q2] at p2
        obtain ⟨v3, o3, y3, f3, s3, r3, p3⟩ := p2
        refine PSR.base f3 ?_
        obtain ⟨v4, o4, h4, e4, f4, s4, p4⟩ := p3 v3 d2 d3 d h3 (r2.mono f3.mono) r3 ((r1.mono f2.mono).mono f3.mono) s3
        show PSR v3 o3 h3 (((setD d2 d3 d h3).bind fun _ h4 => .ok e h4).toS e _) Z W
        rw [e4]
        exact ⟨v4, o4, E, f4, s4, (((re.mono f1.mono).mono f2.mono).mono f3.mono).mono f4.mono, p4⟩
def tryW (sub : Nat → Nat → Option Bool) (hd : Hd) (su : Xy → SD) (Z : ZQ) (W : XS) : XS := fun x E o =>
  (sub x.cls hd.cls = some true ∧ slotOk (E.map fun _ => none) hd.slot = true ∧ VS (su x) (match hd.slot with | some i => E.set i none | none => E) o (fun f E2 o2 => Z f (match hd.slot with | some i => E2.set i none | none => E2) o2) nos) ∨ (sub x.cls hd.cls = some false ∧ W x E o)
theorem vs_try {sub : Nat → Nat → Option Bool} {hd : Hd} {b : SD} {su : Xy → SD} (hsu : ∀ v x y, RXy v x y → ∀ E o Z, VS (su y) E o Z nos → ∀ e h, REy v e E → Sat v o h → PSR v o h (hd.suite x e h) Z nos) (p : VS b E o Z (tryW sub hd su Z W)) : VS (sTry sub b hd) E o Z W := fun v e h re s => by
  have p := p v e h re s
  unfold sTry
  cases q : b e h with
  | stuck => rw [q] at p; exact p
  | go fl e1 h1 =>
    rw [q] at p
    cases fl <;> exact p
  | exc x e1 h1 =>
    rw [q] at p
    obtain ⟨v1, o1, E1, y, f1, s1, re1, rx, p1⟩ := p
    refine PSR.base f1 ?_
    rcases p1 with ⟨q1, q2, q3⟩ | ⟨q1, q2⟩
    · have ec : sub x.cls hd.cls = some true := by rw [rx.1]; exact q1
      simp only [ec]
      have sl : slotOk e1 hd.slot = true := by
        unfold slotOk at q2 ⊢
        cases z : hd.slot with
        | none => rfl
        | some i => rw [z] at q2; simp only [List.length_map] at q2; simp only [re1.len]; exact q2
      rw [if_pos sl]
      have re2 : REy v1 (clr e1 hd.slot) (match hd.slot with | some i => E1.set i none | none => E1) := by
        cases z : hd.slot with
        | none => exact re1
        | some i => exact re1.drop1 i none
      have p3 := hsu v1 x y rx _ _ _ q3 _ h1 re2 s1
      have out : ∀ {v2 : Vw} {e2 : Ev} {E2 : Ey}, REy v2 e2 E2 → REy v2 (clr e2 hd.slot) (match hd.slot with | some i => E2.set i none | none => E2) := fun {v2 e2 E2} r => by
        cases z : hd.slot with
        | none => exact r
        | some i => exact r.drop1 i none
      cases w : hd.suite x (clr e1 hd.slot) h1 with
      | stuck => rw [w] at p3; exact p3.elim
      | exc _ _ _ => rw [w] at p3; obtain ⟨_, _, _, _, _, _, _, _, z⟩ := p3; exact z.elim
      | go fl e2 h2 =>
        rw [w] at p3
        cases fl with
        | nx => obtain ⟨v', o', b', f', s', ra, q'⟩ := p3; exact ⟨v', o', _, f', s', out ra, q'⟩
        | bk => obtain ⟨v', o', b', f', s', ra, q'⟩ := p3; exact ⟨v', o', _, f', s', out ra, q'⟩
        | ct => obtain ⟨v', o', b', f', s', ra, q'⟩ := p3; exact ⟨v', o', _, f', s', out ra, q'⟩
        | rt d => obtain ⟨v', o', b', y', f', s', ra, ry, q'⟩ := p3; exact ⟨v', o', _, y', f', s', out ra, ry, q'⟩
    · have ec : sub x.cls hd.cls = some false := by rw [rx.1]; exact q1
      simp only [ec]
      exact ⟨v1, o1, E1, y, Fr.refl _ _ _, s1, re1, rx, q2⟩
def SrcOk (v : Vw) (h : Hh) (ns : List Nat) (src : List (Nat × List D)) : Prop := ∀ p ∈ src, (v p.1 = some (.lst p.2) ∨ v p.1 = some (.frz p.2)) ∨ (p.1 ∈ ns ∧ h[p.1]? = some (.lst p.2))
def VI (it : ID) (E : Ey) (o : OC) (Q : List Y → List Nat → OC → Prop) (X : XQ) : Prop := ∀ v e h, REy v e E → Sat v o h → match it e h with
  | .ok sq h' => ∃ v' o' ys ns, Fr v o h v' o' h' ∧ Sat v' o' h' ∧ RYs v' sq.items ys ∧ SrcOk v' h' ns sq.src ∧ Q ys ns o'
  | .exc x h' => ∃ v' o' y, Fr v o h v' o' h' ∧ Sat v' o' h' ∧ RXy v' x y ∧ X y o'
  | .stuck => False
inductive Lw (o : OC) : Y → List Y → List Nat → Prop
  | lst (ys : List Y) : Lw o (.lst ys) ys []
  | frz (ys : List Y) : Lw o (.frz ys) ys []
  | own {n : Nat} {ys : List Y} {k : C → OC} : At o n (.lst ys) k → Lw o (.own n) ys [n]
theorem Lw.get {ns : List Nat} (l : Lw o y ys ns) {v : Vw} {h : Hh} (s : Sat v o h) {d : D} (r : RY v d y) : ∃ n ds, d = .ref n ∧ lstAt h n = some ds ∧ RYs v ds ys ∧ ((v n = some (.lst ds) ∨ v n = some (.frz ds)) ∨ (n ∈ ns ∧ h[n]? = some (.lst ds))) := by
  cases l with
  | lst ys =>
    cases r with
    | lst e q => exact ⟨_, _, rfl, by unfold lstAt; rw [s.vw _ _ e], q, .inl (.inl e)⟩
  | frz ys =>
    cases r with
    | frz e q => exact ⟨_, _, rfl, by unfold lstAt; rw [s.vw _ _ e], q, .inl (.inr e)⟩
  | own a =>
    cases r with
    | own =>
      obtain ⟨x, e, _, rc⟩ := s.oc _ a.mem
      cases rc with
      | lst q => exact ⟨_, _, rfl, by unfold lstAt; rw [e], q, .inr ⟨List.mem_singleton.mpr rfl, e⟩⟩
variable {QI : List Y → List Nat → OC → Prop} {a b : ED}
theorem VI.of {v : Vw} {h : Hh} {r : R D} {f : D → Hh → R Sq} {Q1 : Y → OC → Prop} (p : PR RY v o h r Q1 X)
    (k : ∀ v1 o1 h1 d y, Fr v o h v1 o1 h1 → Sat v1 o1 h1 → RY v1 d y → Q1 y o1 → match f d h1 with
      | .ok sq h' => ∃ v' o' ys ns, Fr v1 o1 h1 v' o' h' ∧ Sat v' o' h' ∧ RYs v' sq.items ys ∧ SrcOk v' h' ns sq.src ∧ QI ys ns o'
      | .exc x h' => ∃ v' o' y, Fr v1 o1 h1 v' o' h' ∧ Sat v' o' h' ∧ RXy v' x y ∧ X y o'
      | .stuck => False) : match r.bind f with
      | .ok sq h' => ∃ v' o' ys ns, Fr v o h v' o' h' ∧ Sat v' o' h' ∧ RYs v' sq.items ys ∧ SrcOk v' h' ns sq.src ∧ QI ys ns o'
      | .exc x h' => ∃ v' o' y, Fr v o h v' o' h' ∧ Sat v' o' h' ∧ RXy v' x y ∧ X y o'
      | .stuck => False := by
  cases r with
  | stuck => exact p
  | exc x h' => exact p
  | ok d h1 =>
    obtain ⟨v1, o1, y, f1, s1, r1, q1⟩ := p
    have k := k v1 o1 h1 d y f1 s1 r1 q1
    show match f d h1 with
      | .ok sq h' => ∃ v' o' ys ns, Fr v o h v' o' h' ∧ Sat v' o' h' ∧ RYs v' sq.items ys ∧ SrcOk v' h' ns sq.src ∧ QI ys ns o'
      | .exc x h' => ∃ v' o' y, Fr v o h v' o' h' ∧ Sat v' o' h' ∧ RXy v' x y ∧ X y o'
      | .stuck => False
    cases z : f d h1 with
    | stuck => rw [z] at k; exact k
    | exc x h' => rw [z] at k; obtain ⟨v', o', y', f', rest⟩ := k; exact ⟨v', o', y', f1.trans f', rest⟩
    | ok sq h' => rw [z] at k; obtain ⟨v', o', ys, ns, f', rest⟩ := k; exact ⟨v', o', ys, ns, f1.trans f', rest⟩
theorem vi_seq (p : VE a E o (fun y o1 => ∃ ys ns, Lw o1 y ys ns ∧ QI ys ns o1) X) : VI (iSeq a) E o QI X := fun v e h re s => by
  refine VI.of (p v e h re s) fun v1 o1 h1 d y f1 s1 r1 ⟨ys, ns, l, q⟩ => ?_
  obtain ⟨n, ds, rfl, e1, rs, so⟩ := l.get s1 r1
  simp only [e1]
  exact ⟨v1, o1, ys, ns, Fr.refl _ _ _, s1, rs, fun p hp => by rw [List.mem_singleton] at hp; subst hp; exact so, q⟩
theorem chs_Y {v : Vw} : ∀ l : List Nat, RYs v (l.map fun c => D.str ⟨#[c]⟩) (l.map fun c => Y.str ⟨#[c]⟩)
  | [] => .nil
  | c :: l => .cons (.str _) (chs_Y l)
theorem vi_seqS (p : VE a E o (fun y o1 => ∃ s : Str, y = .str s ∧ QI (s.cps.toList.map fun c => .str ⟨#[c]⟩) [] o1) X) : VI (iSeq a) E o QI X := fun v e h re s => by
  refine VI.of (p v e h re s) fun v1 o1 h1 d y f1 s1 r1 ⟨z, ey, q⟩ => ?_
  subst ey
  cases r1
  exact ⟨v1, o1, _, [], Fr.refl _ _ _, s1, chs_Y _, fun p hp => (by cases hp), q⟩
def rngY (lo : Int) (n : Nat) : List Y := (List.range n).map fun (i : Nat) => .int (lo + (i : Int))
theorem rng_Y {v : Vw} {lo : Int} {n : Nat} : RYs v (rngD lo n) (rngY lo n) := by
  unfold rngD rngY
  generalize List.range n = l
  induction l with
  | nil => exact .nil
  | cons x l ih => exact .cons (.int _) ih
abbrev rB (i : Int) : Prop := -(2 ^ 62) ≤ i ∧ i < 2 ^ 62
theorem vi_range1 (p : VE a E o (fun y o1 => ∃ hi : Int, y = .int hi ∧ rB hi ∧ QI (rngY 0 hi.toNat) [] o1) X) : VI (iRange1 a) E o QI X := fun v e h re s => by
  refine VI.of (p v e h re s) fun v1 o1 h1 d y f1 s1 r1 ⟨hi, ey, hb, q⟩ => ?_
  subst ey
  cases r1
  simp only [rng]
  rw [if_pos ⟨by decide, by decide, hb.1, hb.2⟩]
  simp only [Int.sub_zero]
  exact ⟨v1, o1, _, [], Fr.refl _ _ _, s1, rng_Y, fun p hp => (by cases hp), q⟩
inductive Rms : OC → List Nat → OC → OC → Prop
  | nil {o : OC} : Rms o [] o []
  | cons {o o1 o2 cs : OC} {n : Nat} {ys : List Y} {ns : List Nat} : Rm o n (.lst ys) o1 → Rms o1 ns o2 cs → Rms o (n :: ns) o2 ((n, .lst ys) :: cs)
theorem Rms.sub {o o2 cs : OC} {ns : List Nat} (r : Rms o ns o2 cs) : o2.Sublist o := by
  induction r with
  | nil => exact List.Sublist.refl _
  | cons a _ ih => exact ih.trans a.sub
theorem Rms.csub {o o2 cs : OC} {ns : List Nat} (r : Rms o ns o2 cs) : cs.ks = ns ∧ (∀ p ∈ cs, p ∈ o) ∧ (o.ks.Nodup → cs.ks.Nodup ∧ ∀ n ∈ cs.ks, n ∉ o2.ks) := by
  induction r with
  | nil => exact ⟨rfl, fun _ h => (by cases h), fun _ => ⟨List.nodup_nil, fun _ h => (by cases h)⟩⟩
  | @cons o o1 o2 cs n ys ns a r ih =>
    obtain ⟨h1, h2, h3⟩ := ih
    refine ⟨by show n :: cs.ks = _; rw [h1], fun p hp => ?_, fun nd => ?_⟩
    · rcases List.mem_cons.mp hp with h | h
      · exact h ▸ a.mem
      · exact a.sub.subset (h2 p h)
    · obtain ⟨g1, g2⟩ := h3 (nd.sublist (a.sub.map _))
      have an := a.ne nd
      refine ⟨List.nodup_cons.mpr ⟨fun m => an ?_, g1⟩, fun m hm => ?_⟩
      · obtain ⟨p, hp, e⟩ := List.mem_map.mp m
        have e : p.1 = n := e
        rw [← e]; exact List.mem_map_of_mem (f := (·.1)) (h2 p hp)
      · rcases List.mem_cons.mp hm with h | h
        · subst h; exact fun z => an ((r.sub.map _).subset z)
        · exact g2 m h
theorem Sat.less {v : Vw} {h : Hh} {o o2 : OC} (s : Sat v o h) (r : o2.Sublist o) : Sat v o2 h := ⟨s.vw, fun p hp => s.oc p (r.subset hp), s.nd.sublist (r.map _)⟩
theorem Fr.less {v : Vw} {h : Hh} {o o2 : OC} (r : o2.Sublist o) : Fr v o h v o2 h := ⟨fun _ _ e => e, fun n x e hn => ⟨e, rfl, fun z => hn ((r.map _).subset z)⟩⟩
theorem Rms.back {v v' : Vw} {h h' : Hh} {o o2 o3 cs : OC} {ns : List Nat} (r : Rms o ns o2 cs) (s : Sat v o h) (f : Fr v o2 h v' o3 h') (s' : Sat v' o3 h') : Fr v o h v' (cs ++ o3) h' ∧ Sat v' (cs ++ o3) h' := by
  obtain ⟨h1, h2, h3⟩ := r.csub
  obtain ⟨g1, g2⟩ := h3 s.nd
  have cell : ∀ p ∈ cs, ∃ x, h[p.1]? = some x ∧ v p.1 = none ∧ RC v x p.2 := fun p hp => s.oc p (h2 p hp)
  have kp : ∀ p ∈ cs, p.1 ∉ o2.ks := fun p hp => g2 p.1 (List.mem_map_of_mem (f := (·.1)) hp)
  refine ⟨⟨f.mono, fun n x e hn => ?_⟩, ⟨s'.vw, fun p hp => ?_, ?_⟩⟩
  · have n2 : n ∉ o2.ks := fun z => hn ((r.sub.map _).subset z)
    obtain ⟨k1, k2, k3⟩ := f.keep n x e n2
    refine ⟨k1, k2, fun z => ?_⟩
    rcases List.mem_append.mp (by simpa [OC.ks] using z : n ∈ cs.ks ++ o3.ks) with z | z
    · obtain ⟨p, hp, e⟩ := List.mem_map.mp z
      exact hn (e ▸ List.mem_map_of_mem (f := (·.1)) (h2 p hp))
    · exact k3 z
  · rcases List.mem_append.mp hp with hp | hp
    · obtain ⟨x, e1, e2, e3⟩ := cell p hp
      obtain ⟨k1, k2, k3⟩ := f.keep _ _ e1 (kp p hp)
      exact ⟨x, k1, k2.trans e2, e3.mono f.mono⟩
    · exact s'.oc p hp
  · show (cs ++ o3).ks.Nodup
    have : (cs ++ o3).ks = cs.ks ++ o3.ks := by simp [OC.ks]
    rw [this, List.nodup_append]
    refine ⟨g1, s'.nd, fun n hn m hm z => ?_⟩
    subst z
    obtain ⟨p, hp, e⟩ := List.mem_map.mp hn
    obtain ⟨x, e1, e2, e3⟩ := cell p hp
    exact (f.keep _ _ e1 (kp p hp)).2.2 (by rw [e]; exact hm)
def loopZ (I : Ey → OC → Prop) (cs : OC) (Z : ZQ) : ZQ := fun f E o => match f with
  | .nx => I E o
  | .ct => I E o
  | .bk => Z .nx E (cs ++ o)
  | .rt y => Z (.rt y) E (cs ++ o)
theorem lz_nx {I : Ey → OC → Prop} {cs : OC} (q : I E o) : loopZ I cs Z .nx E o := q
theorem lz_rt {I : Ey → OC → Prop} {cs : OC} (q : Z (.rt y) E (cs ++ o)) : loopZ I cs Z (.rt y) E o := q
def loopW (cs : OC) (W : XS) : XS := fun x E o => W x E (cs ++ o)
def ForG (tg : Tg) (body : SD) (ys : List Y) (ns : List Nat) (E : Ey) (o : OC) (Z : ZQ) (W : XS) : Prop := ∃ (o2 cs : OC) (I : List Y → Ey → OC → Prop), Rms o ns o2 cs ∧ I [] E o2 ∧
  (∀ pre y post E o, ys = pre ++ y :: post → I pre E o → ∃ E1, TgY tg y E E1 ∧ VS body E1 o (loopZ (I (pre ++ [y])) cs Z) (loopW cs W)) ∧ ∀ E o, I ys E o → Z .nx E (cs ++ o)
theorem for_run {tg : Tg} {body : SD} {src : List (Nat × List D)} {ns : List Nat} {v : Vw} {h : Hh} {o o2 cs : OC} {I : List Y → Ey → OC → Prop} {all : List Y} (s : Sat v o h) (r : Rms o ns o2 cs) (so : SrcOk v h ns src)
    (st : ∀ pre y post E o, all = pre ++ y :: post → I pre E o → ∃ E1, TgY tg y E E1 ∧ VS body E1 o (loopZ (I (pre ++ [y])) cs Z) (loopW cs W)) (en : ∀ E o, I all E o → Z .nx E (cs ++ o)) :
    ∀ (ds : List D) (pre post : List Y) (v1 : Vw) (o1 : OC) (h1 : Hh) (e : Ev) (E : Ey), all = pre ++ post → RYs v1 ds post → Fr v o2 h v1 o1 h1 → Sat v1 o1 h1 → REy v1 e E → I pre E o1 → PSR v o h (forGo src tg body ds e h1) Z W := by
  have srcok : ∀ {v1 : Vw} {o1 : OC} {h1 : Hh}, Fr v o2 h v1 o1 h1 → Sat v1 o1 h1 → srcOk src h1 := fun {v1 o1 h1} f s1 p hp => by
    rcases so p hp with (q | q) | ⟨q1, q2⟩
    · unfold lstAt; rw [s1.vw _ _ (f.mono _ _ q)]
    · unfold lstAt; rw [s1.vw _ _ (f.mono _ _ q)]
    · obtain ⟨c1, c2, c3⟩ := r.csub
      have := (f.keep _ _ q2 ((c3 s.nd).2 p.1 (c1 ▸ q1))).1
      unfold lstAt; rw [this]
  intro ds
  induction ds with
  | nil =>
    intro pre post v1 o1 h1 e E ea rs f s1 re i
    cases rs
    unfold forGo
    rw [if_pos (srcok f s1)]
    obtain ⟨f', s'⟩ := r.back s f s1
    rw [List.append_nil] at ea
    subst ea
    exact ⟨v1, _, E, f', s', re, en _ _ i⟩
  | cons d ds ih =>
    intro pre post v1 o1 h1 e E ea rs f s1 re i
    cases rs with
    | @cons _ y _ post r1 r2 =>
      unfold forGo
      rw [if_pos (srcok f s1)]
      obtain ⟨E1, t, b⟩ := st pre y post E o1 ea i
      obtain ⟨e1, te, re1⟩ := t v1 d e r1 re
      rw [te]
      simp only
      have b := b v1 e1 h1 re1 s1
      cases q : body e1 h1 with
      | stuck => rw [q] at b; exact b.elim
      | exc x e2 h2 =>
        rw [q] at b
        obtain ⟨v2, o3, E2, y2, f2, s2, re2, rx, w⟩ := b
        obtain ⟨f', s'⟩ := r.back s (f.trans f2) s2
        exact ⟨v2, _, E2, y2, f', s', re2, rx, w⟩
      | go fl e2 h2 =>
        rw [q] at b
        cases fl with
        | nx =>
          obtain ⟨v2, o3, E2, f2, s2, re2, w⟩ := b
          exact ih (pre ++ [y]) post v2 o3 h2 e2 E2 (by rw [List.append_assoc]; exact ea) (r2.mono f2.mono) (f.trans f2) s2 re2 w
        | ct =>
          obtain ⟨v2, o3, E2, f2, s2, re2, w⟩ := b
          exact ih (pre ++ [y]) post v2 o3 h2 e2 E2 (by rw [List.append_assoc]; exact ea) (r2.mono f2.mono) (f.trans f2) s2 re2 w
        | bk =>
          obtain ⟨v2, o3, E2, f2, s2, re2, w⟩ := b
          obtain ⟨f', s'⟩ := r.back s (f.trans f2) s2
          exact ⟨v2, _, E2, f', s', re2, w⟩
        | rt d2 =>
          obtain ⟨v2, o3, E2, y2, f2, s2, re2, ry, w⟩ := b
          obtain ⟨f', s'⟩ := r.back s (f.trans f2) s2
          exact ⟨v2, _, E2, y2, f', s', re2, ry, w⟩
theorem vs_for {it : ID} {tg : Tg} {body : SD} (p : VI it E o (fun ys ns o1 => ForG tg body ys ns E o1 Z W) (xe W E)) : VS (sFor it tg body) E o Z W := fun v e h re s => by
  have p := p v e h re s
  unfold sFor
  cases q : it e h with
  | stuck => rw [q] at p; exact p.elim
  | exc x h1 =>
    rw [q] at p
    obtain ⟨v1, o1, y, f1, s1, rx, w⟩ := p
    exact ⟨v1, o1, E, y, f1, s1, re.mono f1.mono, rx, w⟩
  | ok sq h1 =>
    rw [q] at p
    obtain ⟨v1, o1, ys, ns, f1, s1, rs, so, o2, cs, I, rm, i0, st, en⟩ := p
    refine PSR.base f1 ?_
    exact for_run s1 rm so st en sq.items [] ys v1 o2 h1 e E rfl rs (Fr.refl _ _ _) (s1.less rm.sub) (re.mono f1.mono) i0
end
end Mn
namespace Mn
open PySem
section
variable {E E1 : Ey} {o o1 o2 : OC} {Q Q' : Y → OC → Prop} {X X' : XQ} {i j : Int} {x y z : Y} {ys zs : List Y} {n : Nat} {c c' : C} {k : C → OC} {Z : ZQ} {W : XS}
def LcG (tg : Tg) (t : TD) (el : ED) (E0 : Ey) (ys : List Y) (ns : List Nat) (o : OC) (F : List Y → OC → Prop) : Prop := ∃ (o2 cs : OC) (I : List Y → List Y → OC → Prop), Rms o ns o2 cs ∧ I [] [] o2 ∧
  (∀ pre y post acc o, ys = pre ++ y :: post → I pre acc o → ∃ E1, TgY tg y E0 E1 ∧ VT t E1 o (fun k o1 => cnd k (VE el E1 o1 (fun z o2 => acc.length < szl ∧ I (pre ++ [y]) (acc ++ [z]) o2) noq) (I (pre ++ [y]) acc o1)) noq) ∧ ∀ acc o, I ys acc o → F acc (cs ++ o)
theorem lc_run {tg : Tg} {t : TD} {el : ED} {src : List (Nat × List D)} {ns : List Nat} {v : Vw} {h : Hh} {o o2 cs : OC} {E0 : Ey} {e0 : Ev} {I : List Y → List Y → OC → Prop} {all : List Y} {F : List Y → OC → Prop} (s : Sat v o h) (r : Rms o ns o2 cs) (so : SrcOk v h ns src) (re0 : REy v e0 E0)
    (st : ∀ pre y post acc o, all = pre ++ y :: post → I pre acc o → ∃ E1, TgY tg y E0 E1 ∧ VT t E1 o (fun k o1 => cnd k (VE el E1 o1 (fun z o2 => acc.length < szl ∧ I (pre ++ [y]) (acc ++ [z]) o2) noq) (I (pre ++ [y]) acc o1)) noq)
    (en : ∀ acc o, I all acc o → F acc (cs ++ o)) {own : Bool} {Q : Y → OC → Prop} {X : XQ} (hF : ∀ acc o, F acc o → NL own acc o Q) (p : Nat) (hpn : h[p]? = none) :
    ∀ (ds : List D) (pre post : List Y) (v1 : Vw) (o1 : OC) (h1 : Hh) (acc : List Y), all = pre ++ post → RYs v1 ds post → Fr v o2 h v1 o1 h1 → Sat v1 o1 h1 → I pre acc o1 → v1 p = none → p ∉ o1.ks → (∃ das, h1[p]? = some (.lst das) ∧ RYs v1 das acc) →
      PR RY v o h (lcGo src tg t el e0 p ds h1) Q X := by
  have srcok : ∀ {v1 : Vw} {o1 : OC} {h1 : Hh}, Fr v o2 h v1 o1 h1 → Sat v1 o1 h1 → srcOk src h1 := fun {v1 o1 h1} f s1 p hp => by
    rcases so p hp with (q | q) | ⟨q1, q2⟩
    · unfold lstAt; rw [s1.vw _ _ (f.mono _ _ q)]
    · unfold lstAt; rw [s1.vw _ _ (f.mono _ _ q)]
    · obtain ⟨c1, c2, c3⟩ := r.csub
      have := (f.keep _ _ q2 ((c3 s.nd).2 p.1 (c1 ▸ q1))).1
      unfold lstAt; rw [this]
  intro ds
  induction ds with
  | nil =>
    intro pre post v1 o1 h1 acc ea rs f s1 i vp op hp
    cases rs
    obtain ⟨das, hp1, hp2⟩ := hp
    unfold lcGo
    rw [if_pos (srcok f s1)]
    obtain ⟨f', s'⟩ := r.back s f s1
    rw [List.append_nil] at ea
    subst ea
    have q := hF _ _ (en _ _ i)
    have pcs : p ∉ (cs ++ o1).ks := fun z => by
      rcases List.mem_append.mp (by simpa [OC.ks] using z : p ∈ cs.ks ++ o1.ks) with z | z
      · obtain ⟨q, hq, e⟩ := List.mem_map.mp z
        obtain ⟨x, e1, _⟩ := s.oc q (r.csub.2.1 q hq)
        rw [e, hpn] at e1; cases e1
      · exact op z
    cases own with
    | true =>
      refine ⟨v1, (p, .lst acc) :: (cs ++ o1), .own p, ⟨f'.mono, fun n x e hn => ?_⟩, ⟨s'.vw, fun q hq => ?_, List.nodup_cons.mpr ⟨pcs, s'.nd⟩⟩, .own, q p pcs⟩
      · obtain ⟨k1, k2, k3⟩ := f'.keep n x e hn
        refine ⟨k1, k2, fun z => ?_⟩
        rcases List.mem_cons.mp z with z | z
        · subst z; rw [hpn] at e; cases e
        · exact k3 z
      · rcases List.mem_cons.mp hq with hq | hq
        · subst hq; exact ⟨_, hp1, vp, .lst hp2⟩
        · exact s'.oc q hq
    | false =>
      have vl : Vle v1 (fun m => if m = p then some (.lst das) else v1 m) := fun m y e => by
        by_cases z : m = p
        · subst z; rw [vp] at e; cases e
        · simp only [if_neg z]; exact e
      refine ⟨fun m => if m = p then some (.lst das) else v1 m, _, .lst acc, ⟨fun m y e => vl _ _ (f'.mono _ _ e), fun n x e hn => ?_⟩, ⟨fun m y e => ?_, fun q hq => ?_, s'.nd⟩, .lst (if_pos rfl) (hp2.mono vl), q⟩
      · obtain ⟨k1, k2, k3⟩ := f'.keep n x e hn
        refine ⟨k1, ?_, k3⟩
        have : n ≠ p := fun z => by subst z; rw [hpn] at e; cases e
        simp only [if_neg this]; exact k2
      · by_cases z : m = p
        · subst z; simp only [if_pos] at e; cases e; exact hp1
        · simp only [if_neg z] at e; exact s'.vw _ _ e
      · obtain ⟨y, g1, g2, g3⟩ := s'.oc q hq
        have : q.1 ≠ p := fun z => pcs (z ▸ List.mem_map_of_mem (f := (·.1)) hq)
        exact ⟨y, g1, by simp only [if_neg this]; exact g2, g3.mono vl⟩
  | cons d ds ih =>
    intro pre post v1 o1 h1 acc ea rs f s1 i vp op hp
    cases rs with
    | @cons _ y _ post r1 r2 =>
      unfold lcGo
      rw [if_pos (srcok f s1)]
      obtain ⟨E1, tt, b⟩ := st pre y post acc o1 ea i
      obtain ⟨e1, te, re1⟩ := tt v1 d e0 r1 (re0.mono f.mono)
      rw [te]
      simp only
      have b := b v1 e1 h1 re1 s1
      obtain ⟨das, hp1, hp2⟩ := hp
      cases q : t e1 h1 with
      | stuck => rw [q] at b; exact b.elim
      | exc x h2 => rw [q] at b; obtain ⟨_, _, _, _, _, _, z⟩ := b; exact z.elim
      | ok k h2 =>
        rw [q] at b
        obtain ⟨v2, o3, k', f2, s2, ek, c⟩ := b
        subst ek
        obtain ⟨g1, g2, g3⟩ := f2.keep p _ hp1 op
        cases k with
        | false => exact ih (pre ++ [y]) post v2 o3 h2 acc (by rw [List.append_assoc]; exact ea) (r2.mono f2.mono) (f.trans f2) s2 c (g2.trans vp) g3 ⟨das, g1, hp2.mono f2.mono⟩
        | true =>
          have c := c v2 e1 h2 (re1.mono f2.mono) s2
          simp only
          cases q2 : el e1 h2 with
          | stuck => rw [q2] at c; exact c.elim
          | exc x h3 => rw [q2] at c; obtain ⟨_, _, _, _, _, _, z⟩ := c; exact z.elim
          | ok d3 h3 =>
            rw [q2] at c
            obtain ⟨v3, o4, z, f3, s3, rz, hl, i3⟩ := c
            obtain ⟨g4, g5, g6⟩ := f3.keep p _ g1 g3
            simp only
            rw [g4]
            simp only
            have hr := (hp2.mono f2.mono).mono f3.mono
            rw [if_pos (by rw [hr.length]; exact hl)]
            have vp3 : v3 p = none := g5.trans (g2.trans vp)
            have hlp := (List.getElem?_eq_some_iff.mp g4).1
            have fs : Fr v3 o4 h3 v3 o4 (h3.set p (.lst (das ++ [d3]))) ∨ True := .inr trivial
            -- the new list is nobody's
            have s4 : Sat v3 o4 (h3.set p (.lst (das ++ [d3]))) := ⟨fun n x e => by
                have : p ≠ n := fun z => by subst z; rw [vp3] at e; cases e
                rw [List.getElem?_set_ne this]; exact s3.vw _ _ e, fun w hw => by
                obtain ⟨x, e1, e2, e3⟩ := s3.oc w hw
                have : p ≠ w.1 := fun z => g6 (z ▸ List.mem_map_of_mem (f := (·.1)) hw)
                exact ⟨x, by rw [List.getElem?_set_ne this]; exact e1, e2, e3⟩, s3.nd⟩
            have f4 : Fr v o2 h v3 o4 (h3.set p (.lst (das ++ [d3]))) := by
              have f4 := (f.trans f2).trans f3
              refine ⟨f4.mono, fun n x e hn => ?_⟩
              obtain ⟨k1, k2, k3⟩ := f4.keep n x e hn
              have : p ≠ n := fun z => by subst z; rw [hpn] at e; cases e
              exact ⟨by rw [List.getElem?_set_ne this]; exact k1, k2, k3⟩
            exact ih (pre ++ [y]) post v3 o4 _ (acc ++ [z]) (by rw [List.append_assoc]; exact ea) ((r2.mono f2.mono).mono f3.mono) f4 s4 i3 vp3 g6 ⟨_, List.getElem?_set_self hlp, hr.snoc rz⟩
theorem vE_Lc (own : Bool) {it : ID} {tg : Tg} {t : TD} {el : ED} {vs : List Nat} (p : VI it E o (fun ys ns o1 => LcG tg t el (wipeY E vs) ys ns o1 fun acc o => NL own acc o Q) X) : VE (dLc it tg t el vs) E o Q X := fun v e h re s => by
  have p := p v e h re s
  unfold dLc
  cases q : it e h with
  | stuck => rw [q] at p; exact p.elim
  | exc x h1 => rw [q] at p; exact p
  | ok sq h1 =>
    rw [q] at p
    obtain ⟨v1, o1, ys, ns, f1, s1, rs, so, o2, cs, I, rm, i0, st, en⟩ := p
    refine PR.base f1 ?_
    obtain ⟨n1, n2⟩ := s1.new (x := .lst [])
    have s2 : Sat v1 o2 (h1 ++ [.lst []]) := ⟨fun n y e => app_old (s1.vw _ _ e), fun p hp => by
      obtain ⟨y, e1, e2, e3⟩ := s1.oc p (rm.sub.subset hp)
      exact ⟨y, app_old e1, e2, e3⟩, s1.nd.sublist (rm.sub.map _)⟩
    have f2 : Fr v1 o2 h1 v1 o2 (h1 ++ [.lst []]) := ⟨fun _ _ e => e, fun n x e hn => ⟨app_old e, rfl, hn⟩⟩
    exact lc_run s1 rm so ((re.mono f1.mono).wipe vs) st en (fun _ _ q => q) h1.length (by simp) sq.items [] ys v1 o2 _ [] rfl rs f2 s2 i0 n1 (fun z => n2 ((rm.sub.map _).subset z)) ⟨[], app_new, .nil⟩
def Ret (y : Y) (o : OC) (Q : Y → OC → Prop) : Prop := ∀ v h d, RY v d y → Sat v o h → ∃ v' o' y', Fr v o h v' o' h ∧ Sat v' o' h ∧ RY v' d y' ∧ Q y' o'
theorem ret_v (r : o1.Sublist o) (q : Q y o1) : Ret y o Q := fun v h d ry s => ⟨v, o1, y, Fr.less r, s.less r, ry, q⟩
theorem ret_0 (q : Q y []) : Ret y o Q := ret_v (List.nil_sublist _) q
def fnK (Q : Y → OC → Prop) : ZQ := fun f _ o => match f with
  | .nx => Ret .non o Q
  | .rt y => Ret y o Q
  | _ => False
theorem fn_rt (q : Ret y o Q) : fnK Q (.rt y) E o := q
def startY (n : Nat) (ys : List Y) : Ey := ys.map some ++ List.replicate (n - ys.length) none
theorem start_Y {v : Vw} {ds : List D} (r : RYs v ds ys) : REy v (ds.map some ++ List.replicate (n - ds.length) none) (startY n ys) := by
  have hl := r.length
  refine ⟨by unfold startY; simp [hl], fun i y e => ?_⟩
  unfold startY at e
  by_cases hi : i < ys.length
  · rw [List.getElem?_append_left (by rw [List.length_map]; exact hi), List.getElem?_map] at e
    cases q : ys[i]? with
    | none => rw [q] at e; cases e
    | some d' =>
      rw [q] at e
      cases e
      obtain ⟨d, e1, r1⟩ := r.get q
      exact ⟨d, by rw [List.getElem?_append_left (by rw [List.length_map, hl]; exact hi), List.getElem?_map, e1]; rfl, r1⟩
  · rw [List.getElem?_append_right (by rw [List.length_map]; omega), List.getElem?_replicate] at e
    split at e <;> cases e
def RetX (x : Xy) (o : OC) (X : XQ) : Prop := ∃ o1, o1.Sublist o ∧ X x o1
theorem retx {x : Xy} (r : o1.Sublist o) (q : X x o1) : RetX x o X := ⟨o1, r, q⟩
theorem vf_run {b : SD} (p : VS b (startY n ys) o (fnK Q) (fun x _ o => RetX x o X)) : VF (fnRun b n) ys o Q X := fun v ds h r s => by
  have p := p v _ h (start_Y r) s
  unfold fnRun
  cases z : b (ds.map some ++ List.replicate (n - ds.length) none) h with
  | stuck => rw [z] at p; exact p
  | exc x e1 h1 =>
    rw [z] at p
    obtain ⟨v1, o1, E1, y, f1, s1, re1, rx, o3, r3, w⟩ := p
    exact ⟨v1, o3, y, f1.trans (Fr.less r3), s1.less r3, rx, w⟩
  | go fl e1 h1 =>
    rw [z] at p
    cases fl with
    | nx =>
      obtain ⟨v1, o1, E1, f1, s1, re1, q⟩ := p
      obtain ⟨v2, o2, y2, f2, s2, r2, q2⟩ := q v1 h1 .non .non s1
      exact ⟨v2, o2, y2, f1.trans f2, s2, r2, q2⟩
    | rt d =>
      obtain ⟨v1, o1, E1, y, f1, s1, re1, ry, q⟩ := p
      obtain ⟨v2, o2, y2, f2, s2, r2, q2⟩ := q v1 h1 d ry s1
      exact ⟨v2, o2, y2, f1.trans f2, s2, r2, q2⟩
    | bk => obtain ⟨_, _, _, _, _, _, q⟩ := p; exact q.elim
    | ct => obtain ⟨_, _, _, _, _, _, q⟩ := p; exact q.elim
def VP (f : FD) (ys : List Y) (r : Y) : Prop := VF f ys [] (fun y o => y = r ∧ o = []) noq
theorem vp_run {b : SD} {r : Y} (p : VS b (startY n ys) [] (fnK fun y o => y = r ∧ o = []) (fun x _ o => RetX x o noq)) : VP (fnRun b n) ys r := vf_run p
theorem Sat.fr {v v' : Vw} {h h' : Hh} {o0 o1 : OC} (s : Sat v o h) (sub : o0.Sublist o) (e0 : o0 = []) (f : Fr v o0 h v' o1 h') (s' : Sat v' o1 h') : Fr v o h v' (o1 ++ o) h' ∧ Sat v' (o1 ++ o) h' := by
  subst e0
  have kp : ∀ p ∈ o, ∃ x, h'[p.1]? = some x ∧ v' p.1 = none ∧ RC v' x p.2 ∧ p.1 ∉ o1.ks := fun p hp => by
    obtain ⟨x, e1, e2, e3⟩ := s.oc p hp
    obtain ⟨k1, k2, k3⟩ := f.keep _ _ e1 (by simp [OC.ks])
    exact ⟨x, k1, k2.trans e2, e3.mono f.mono, k3⟩
  refine ⟨⟨f.mono, fun n x e hn => ?_⟩, ⟨s'.vw, fun p hp => ?_, ?_⟩⟩
  · obtain ⟨k1, k2, k3⟩ := f.keep n x e (by simp [OC.ks])
    refine ⟨k1, k2, fun z => ?_⟩
    rcases List.mem_append.mp (by simpa [OC.ks] using z : n ∈ o1.ks ++ o.ks) with z | z
    · exact k3 z
    · exact hn z
  · rcases List.mem_append.mp hp with hp | hp
    · exact s'.oc p hp
    · obtain ⟨x, k1, k2, k3, _⟩ := kp p hp
      exact ⟨x, k1, k2, k3⟩
  · have : (o1 ++ o).ks = o1.ks ++ o.ks := by simp [OC.ks]
    show (o1 ++ o).ks.Nodup
    rw [this, List.nodup_append]
    refine ⟨s'.nd, s.nd, fun n hn m hm z => ?_⟩
    subst z
    obtain ⟨p, hp, e⟩ := List.mem_map.mp hm
    exact (kp p hp).choose_spec.2.2.2 (by rw [e]; exact hn)
theorem vc_fr {f : FD} {Q0 : Y → OC → Prop} {X0 : XQ} (p : VF f ys [] Q0 X0) (g : ∀ y o1, Q0 y o1 → Q y (o1 ++ o)) (gx : ∀ y o1, X0 y o1 → X y (o1 ++ o)) : VF f ys o Q X := fun v ds h r s => by
  have p := p v ds h r (s.less (List.nil_sublist _))
  cases z : f ds h with
  | stuck => rw [z] at p; exact p.elim
  | ok d h' =>
    rw [z] at p
    obtain ⟨v', o1, y, f1, s1, r1, q⟩ := p
    obtain ⟨f2, s2⟩ := s.fr (List.nil_sublist _) rfl f1 s1
    exact ⟨v', _, y, f2, s2, r1, g _ _ q⟩
  | exc x h' =>
    rw [z] at p
    obtain ⟨v', o1, y, f1, s1, r1, q⟩ := p
    obtain ⟨f2, s2⟩ := s.fr (List.nil_sublist _) rfl f1 s1
    exact ⟨v', _, y, f2, s2, r1, gx _ _ q⟩
theorem vc_p {f : FD} {r : Y} (p : VP f ys r) (q : Q r o) : VF f ys o Q X := vc_fr p (fun y o1 ⟨e1, e2⟩ => by subst e1; subst e2; exact q) fun _ _ z => z.elim
theorem vc_own {f : FD} {Q0 : Y → OC → Prop} {X0 : XQ} (a : At o n c k) (p : VF f ys [(n, c)] Q0 X0) (g : ∀ y o1, Q0 y o1 → ∃ c', o1 = [(n, c')] ∧ Q y (k c')) (gx : ∀ y o1, X0 y o1 → ∃ c', o1 = [(n, c')] ∧ X y (k c')) : VF f ys o Q X := fun v ds h r s => by
  have s0 : Sat v [(n, c)] h := ⟨s.vw, fun p hp => by rw [List.mem_singleton] at hp; subst hp; exact s.oc _ a.mem, by simp [OC.ks]⟩
  have p := p v ds h r s0
  have key : ∀ {v' : Vw} {h' : Hh} {c' : C}, Fr v [(n, c)] h v' [(n, c')] h' → Sat v' [(n, c')] h' → Fr v o h v' (k c') h' ∧ Sat v' (k c') h' := fun {v' h' c'} f1 s1 => by
    have nk : n ∈ o.ks := List.mem_map_of_mem (f := (·.1)) a.mem
    refine ⟨⟨f1.mono, fun m x e hm => ?_⟩, ⟨s1.vw, fun p hp => ?_, by show (k c').ks.Nodup; rw [a.ks]; exact s.nd⟩⟩
    · obtain ⟨k1, k2, k3⟩ := f1.keep m x e (by simp only [OC.ks, List.map_cons, List.map_nil, List.mem_singleton]; exact fun z => hm (z ▸ nk))
      exact ⟨k1, k2, by show m ∉ (k c').ks; rw [a.ks]; exact hm⟩
    · rcases a.mem' s.nd hp with hp | ⟨hp1, hp2⟩
      · subst hp; exact s1.oc _ (.head _)
      · obtain ⟨x, e1, e2, e3⟩ := s.oc p hp1
        obtain ⟨k1, k2, k3⟩ := f1.keep _ _ e1 (by simp only [OC.ks, List.map_cons, List.map_nil, List.mem_singleton]; exact hp2)
        exact ⟨x, k1, k2.trans e2, e3.mono f1.mono⟩
  cases z : f ds h with
  | stuck => rw [z] at p; exact p.elim
  | ok d h' =>
    rw [z] at p
    obtain ⟨v', o1, y, f1, s1, r1, q⟩ := p
    obtain ⟨c', rfl, q2⟩ := g _ _ q
    obtain ⟨f2, s2⟩ := key f1 s1
    exact ⟨v', _, y, f2, s2, r1, q2⟩
  | exc x h' =>
    rw [z] at p
    obtain ⟨v', o1, y, f1, s1, r1, q⟩ := p
    obtain ⟨c', rfl, q2⟩ := gx _ _ q
    obtain ⟨f2, s2⟩ := key f1 s1
    exact ⟨v', _, y, f2, s2, r1, q2⟩
inductive Fz (n : Nat) (w : Y) : Ey → Ey → Prop
  | nil : Fz n w [] []
  | chg {E E' : Ey} : Fz n w E E' → Fz n w (some (.own n) :: E) (some w :: E')
  | keep {a : Option Y} {E E' : Ey} : Fz n w E E' → Fz n w (a :: E) (a :: E')
theorem for_map {α : Type} {tg : Tg} {body : SD} {xs : List α} {enc : α → Y} (I : List α → Ey → OC → Prop) (i0 : I [] E o)
    (st : ∀ pre x post E o, xs = pre ++ x :: post → I pre E o → ∃ E1, TgY tg (enc x) E E1 ∧ VS body E1 o (loopZ (I (pre ++ [x])) [] Z) W) (en : ∀ E o, I xs E o → Z .nx E o) : ForG tg body (xs.map enc) [] E o Z W :=
  ⟨o, [], fun ys E o => ∃ pre, ys = pre.map enc ∧ I pre E o ∧ ∃ post, xs = pre ++ post, .nil, ⟨[], rfl, i0, xs, rfl⟩, fun pre y post E o e ⟨pre', e1, i, post', e2⟩ => by
    subst e1
    rw [e2, List.map_append] at e
    have e := List.append_cancel_left e
    cases post' with
    | nil => cases e
    | cons x post' =>
      cases e
      obtain ⟨E1, t, b⟩ := st pre' x post' E o e2 i
      refine ⟨E1, t, b.mono (fun l E o q => ?_) fun _ _ _ q => q⟩
      cases l with
      | nx => exact ⟨pre' ++ [x], by simp, q, post', by rw [e2]; simp⟩
      | ct => exact ⟨pre' ++ [x], by simp, q, post', by rw [e2]; simp⟩
      | bk => exact q
      | rt y => exact q, fun E o ⟨pre, e1, i, post, e2⟩ => by
    have : post = [] := by
      have := congrArg List.length e1
      rw [e2] at this
      simp at this
      exact this
    subst this
    rw [List.append_nil] at e2
    subst e2
    exact en E o i⟩
theorem for_rng {tg : Tg} {body : SD} {lo : Int} {m : Nat} (I : Nat → Ey → OC → Prop) (i0 : I 0 E o)
    (st : ∀ t E o, t < m → I t E o → ∃ E1, TgY tg (.int (lo + t)) E E1 ∧ VS body E1 o (loopZ (I (t + 1)) [] Z) W) (en : ∀ E o, I m E o → Z .nx E o) : ForG tg body (rngY lo m) [] E o Z W := by
  refine for_map (fun pre E o => pre = List.range pre.length ∧ I pre.length E o) ⟨rfl, i0⟩ (fun pre x post E o e ⟨h1, i⟩ => ?_) fun E o ⟨h1, i⟩ => ?_
  · have hl := congrArg List.length e
    simp at hl
    have hx : x = pre.length := by
      have h2 : (List.range m)[pre.length]? = some x := by rw [e]; simp
      rw [List.getElem?_range (by omega)] at h2
      exact (Option.some.inj h2).symm
    subst hx
    obtain ⟨E1, t, b⟩ := st pre.length E o (by omega) i
    have hp : pre ++ [pre.length] = List.range (pre ++ [pre.length]).length := by
      rw [List.length_append, List.length_singleton, List.range_succ, ← h1]
    refine ⟨E1, t, b.mono (fun l E o q => ?_) fun _ _ _ q => q⟩
    cases l with
    | nx => exact ⟨hp, by rw [List.length_append, List.length_singleton]; exact q⟩
    | ct => exact ⟨hp, by rw [List.length_append, List.length_singleton]; exact q⟩
    | bk => exact q
    | rt y => exact q
  · rw [List.length_range] at i
    exact en E o i
theorem lc_map {α : Type} {tg : Tg} {el : ED} {xs : List α} {enc f : α → Y} {E0 : Ey} {F : List Y → OC → Prop} (hl : xs.length ≤ szl)
    (st : ∀ x ∈ xs, ∃ E1, TgY tg (enc x) E0 E1 ∧ VE el E1 o (fun z o2 => z = f x ∧ o2 = o) noq) (en : F (xs.map f) o) : LcG tg tY el E0 (xs.map enc) [] o F :=
  ⟨o, [], fun pre acc o' => o' = o ∧ ∃ p post, xs = p ++ post ∧ pre = p.map enc ∧ acc = p.map f, .nil, ⟨rfl, [], xs, rfl, rfl, rfl⟩, fun pre y post acc o' e ⟨eo, p, q, e1, e2, e3⟩ => by
    subst eo; subst e2; subst e3
    rw [e1, List.map_append] at e
    have e := List.append_cancel_left e
    cases q with
    | nil => cases e
    | cons x q =>
      cases e
      obtain ⟨E1, t, b⟩ := st x (by rw [e1]; simp)
      refine ⟨E1, t, vT_Y (b.mono (fun z o2 ⟨h1, h2⟩ => ?_) fun _ _ q => q)⟩
      subst h1; subst h2
      refine ⟨?_, rfl, p ++ [x], q, by rw [e1]; simp, by simp, by simp⟩
      have := congrArg List.length e1
      simp at this
      rw [List.length_map]
      omega, fun acc o' ⟨eo, p, q, e1, e2, e3⟩ => by
    subst eo
    have : q = [] := by
      have := congrArg List.length e2
      rw [e1] at this
      simp at this
      exact this
    subst this
    rw [List.append_nil] at e1
    subst e1
    subst e3
    exact en⟩
end
end Mn
namespace Mn
open PySem
theorem RYs.strs {v : Vw} : ∀ l : List Str, RYs v (l.map .str) (l.map .str)
  | [] => .nil
  | s :: l => .cons (.str s) (RYs.strs l)
section
variable {E E1 : Ey} {o o1 o2 : OC} {Q Q' : Y → OC → Prop} {X X' : XQ} {i j : Int} {x y z : Y} {ys zs : List Y} {s s' : Str} {n : Nat} {c c' : C} {k : C → OC} {a b : ED}
def VOp (f : OD) (E : Ey) (o : OC) (Q : Option Int → OC → Prop) (X : XQ) : Prop := ∀ v e h, REy v e E → Sat v o h → PR (fun _ a b => a = b) v o h (f e h) Q X
def VSl (x : Y) (l u : Option Int) (o : OC) (Q : Y → OC → Prop) (X : XQ) : Prop := ∀ v d h, RY v d x → Sat v o h → PR RY v o h (slD d l u h) Q X
theorem vO_N {Q : Option Int → OC → Prop} (q : Q none o) : VOp oN E o Q X := fun v e h re s => PR.ok s rfl q
def OSK (Q : Option Int → OC → Prop) (x : Y) (o : OC) : Prop := ∃ i, x = .int i ∧ Q (some i) o
theorem os_i {i : Int} {Q : Option Int → OC → Prop} (q : Q (some i) o) : OSK Q (.int i) o := ⟨i, rfl, q⟩
theorem vO_S {Q : Option Int → OC → Prop} (p : VE a E o (OSK Q) X) : VOp (oS a) E o Q X := fun v e h re s =>
  (p v e h re s).bind fun v1 o1 h1 d y f1 s1 r1 p1 => by
    obtain ⟨i, e1, q⟩ := p1
    subst e1
    cases r1
    exact PR.ok s1 rfl q
theorem vE_Sl {lo hi : OD} (p : VE a E o (fun x o1 => VOp lo E o1 (fun l o2 => VOp hi E o2 (fun u o3 => VSl x l u o3 Q X) X) X) X) : VE (dSl a lo hi) E o Q X := fun v e h re s =>
  (p v e h re s).bind fun v1 o1 h1 d y f1 s1 r1 p1 => (p1 v1 e h1 (re.mono f1.mono) s1).bind fun v2 o2 h2 l l' f2 s2 r2 p2 => (p2 v2 e h2 ((re.mono f1.mono).mono f2.mono) s2).bind fun v3 o3 h3 u u' f3 s3 r3 p3 => by
    subst r2; subst r3
    exact p3 v3 d h3 ((r1.mono f2.mono).mono f3.mono) s3
theorem sl_s {l u : Option Int} (hl : s.length ≤ szl) (q : Q (.str (L2.cutS s l u)) o) : VSl (.str s) l u o Q X := fun v d h r sa => by
  cases r
  show PR RY v o h (if s.length ≤ szl then _ else _) Q X
  rw [if_pos hl]
  exact PR.ok sa (.str _) q
variable {Z : ZQ} {W : XS}
end
end Mn
namespace Mn
open PySem
section
variable {E E1 : Ey} {o : OC} {Z : ZQ} {W : XS} {tg : Tg} {body : SD} {ys : List Y}
theorem for_ix (I : Nat → Ey → OC → Prop) (i0 : I 0 E o) (st : ∀ t (h : t < ys.length) E o, I t E o → ∃ E1, TgY tg ys[t] E E1 ∧ VS body E1 o (loopZ (I (t + 1)) [] Z) W) (en : ∀ E o, I ys.length E o → Z .nx E o) : ForG tg body ys [] E o Z W :=
  ⟨o, [], fun pre => I pre.length, .nil, i0, fun pre y post E o e i => by
    have h : pre.length < ys.length := by rw [e]; simp
    obtain ⟨E1, t, b⟩ := st pre.length h E o i
    have ey : ys[pre.length] = y := by
      have : ys[pre.length]? = some y := by rw [e]; simp
      rw [List.getElem?_eq_getElem h] at this
      exact Option.some.inj this
    rw [ey] at t
    refine ⟨E1, t, ?_⟩
    show VS body E1 o (loopZ (I (pre ++ [y]).length) [] Z) W
    rw [List.length_append, List.length_singleton]
    exact b, en⟩
end
end Mn
namespace Mn
open PySem
section
variable {E0 : Ey} {o : OC} {tg : Tg} {t : TD} {el : ED} {ys : List Y} {F : List Y → OC → Prop}
end
end Mn
namespace Mn
open PySem
theorem RFs.len {v : Vw} : ∀ {ds : List (Nat × D)} {fs : List (Nat × Y)}, RFs v ds fs → ds.length = fs.length
  | _, _, .nil => rfl
  | _, _, .cons _ r => congrArg Nat.succ (RFs.len r)
section
variable {E E' : Ey} {o o1 : OC} {Q : Y → OC → Prop} {X : XQ} {a b : ED} {as ks : AD} {f : FD} {Z : ZQ} {W : XS} {c n fd : Nat} {fs : List (Nat × Y)} {k : C → OC} {y x z w : Y} {ys : List Y}
inductive Is (o : OC) : Y → Nat → List (Nat × Y) → Prop
  | ins (c : Nat) (fs : List (Nat × Y)) : Is o (.ins c fs) c fs
  | own {n c : Nat} {fs : List (Nat × Y)} {k : C → OC} : At o n (.ins c fs) k → Is o (.own n) c fs
def VPut (na : Nat → List Nat) (f : Nat) (x y : Y) (o : OC) (J : OC → Prop) : Prop := ∃ n c fs k, x = .own n ∧ At o n (.ins c fs) k ∧ (na c).elem f = true ∧ fs.length < 900 ∧ J (k (.ins c (putA f y fs)))
theorem rfs_zip {v : Vw} : ∀ {fs : List Nat} {ds : List D} {ys : List Y}, RYs v ds ys → RFs v (fs.zip ds) (fs.zip ys)
  | [], _, _, _ => by simp; exact .nil
  | f :: fs, _, _, .nil => by simp; exact .nil
  | f :: fs, _, _, .cons a r => .cons a (rfs_zip r)
theorem RFs.app {v : Vw} : ∀ {ds es : List (Nat × D)} {fs gs : List (Nat × Y)}, RFs v ds fs → RFs v es gs → RFs v (ds ++ es) (fs ++ gs)
  | _, _, _, _, .nil, s => s
  | _, _, _, _, .cons a r, s => .cons a (RFs.app r s)
theorem RFs.rev {v : Vw} : ∀ {ds : List (Nat × D)} {fs : List (Nat × Y)}, RFs v ds fs → RFs v ds.reverse fs.reverse
  | _, _, .nil => .nil
  | _, _, .cons a r => by rw [List.reverse_cons, List.reverse_cons]; exact (RFs.rev r).app (.cons a .nil)
theorem vs_raiseA {nf : List Nat} (p : VA as E o (fun ys o1 => ys.length = nf.length ∧ W ⟨c, (nf.zip ys).reverse⟩ E o1) (xe W E)) : VS (sRaiseA c nf as) E o Z W := fun v e h re s =>
  PR.toS re (p v e h re s) fun v1 o1 h1 ds ys f1 s1 r1 p1 => by
    rw [if_pos (by rw [r1.length]; exact p1.1)]
    exact ⟨v1, o1, E, _, Fr.refl _ _ _, s1, re.mono f1.mono, ⟨rfl, (rfs_zip r1).rev⟩, p1.2⟩
end
mutual
def dOf : Y → Option D
  | .non => some .non
  | .bl b => some (.bl b)
  | .int i => some (.int i)
  | .str s => some (.str s)
  | .tup ys => (dOfs ys).map .tup
  | _ => none
def dOfs : List Y → Option (List D)
  | [] => some []
  | y :: ys => match dOf y, dOfs ys with
    | some d, some ds => some (d :: ds)
    | _, _ => none
end
mutual
theorem dOf_eq {v : Vw} : ∀ {y : Y} {d d' : D}, dOf y = some d → RY v d' y → d' = d
  | .non, _, _, h, r => by cases h; cases r; rfl
  | .bl _, _, _, h, r => by cases h; cases r; rfl
  | .int _, _, _, h, r => by cases h; cases r; rfl
  | .str _, _, _, h, r => by cases h; cases r; rfl
  | .tup ys, _, _, h, r => by
    cases r with
    | tup r =>
      change (dOfs ys).map D.tup = _ at h
      obtain ⟨ds, h1, h2⟩ := Option.map_eq_some_iff.mp h
      subst h2
      rw [dOfs_eq h1 r]
  | .lst _, _, _, h, _ => by cases h
  | .ins _ _, _, _, h, _ => by cases h
  | .own _, _, _, h, _ => by cases h
  | .frz _, _, _, h, _ => by cases h
theorem dOfs_eq {v : Vw} : ∀ {ys : List Y} {ds ds' : List D}, dOfs ys = some ds → RYs v ds' ys → ds' = ds
  | [], _, _, h, r => by cases h; cases r; rfl
  | y :: ys, ds, _, h, r => by
    cases r with
    | cons a r =>
      change (match dOf y, dOfs ys with | some d, some ds => some (d :: ds) | _, _ => none) = some ds at h
      split at h
      · rename_i d ds' h1 h2
        cases h
        rw [dOf_eq h1 a, dOfs_eq h2 r]
      · cases h
end
def dOfF : List (Nat × Y) → Option (List (Nat × D))
  | [] => some []
  | (n, y) :: r => match dOf y, dOfF r with
    | some d, some ds => some ((n, d) :: ds)
    | _, _ => none
theorem dOfF_eq {v : Vw} : ∀ {fs : List (Nat × Y)} {ds ds' : List (Nat × D)}, dOfF fs = some ds → RFs v ds' fs → ds' = ds
  | [], _, _, h, r => by cases h; cases r; rfl
  | (n, y) :: fs, ds, _, h, r => by
    cases r with
    | cons a r =>
      change (match dOf y, dOfF fs with | some d, some ds => some ((n, d) :: ds) | _, _ => none) = some ds at h
      split at h
      · rename_i d ds' h1 h2
        cases h
        rw [dOf_eq h1 a, dOfF_eq h2 r]
      · cases h
mutual
theorem dOf_ry {v : Vw} : ∀ {y : Y} {d : D}, dOf y = some d → RY v d y
  | .non, _, h => by cases h; exact .non
  | .bl _, _, h => by cases h; exact .bl _
  | .int _, _, h => by cases h; exact .int _
  | .str _, _, h => by cases h; exact .str _
  | .tup ys, _, h => by
    change (dOfs ys).map D.tup = _ at h
    obtain ⟨ds, h1, h2⟩ := Option.map_eq_some_iff.mp h
    subst h2
    exact .tup (dOfs_ry h1)
  | .lst _, _, h => by cases h
  | .ins _ _, _, h => by cases h
  | .own _, _, h => by cases h
  | .frz _, _, h => by cases h
theorem dOfs_ry {v : Vw} : ∀ {ys : List Y} {ds : List D}, dOfs ys = some ds → RYs v ds ys
  | [], _, h => by cases h; exact .nil
  | y :: ys, ds, h => by
    change (match dOf y, dOfs ys with | some d, some ds => some (d :: ds) | _, _ => none) = some ds at h
    split at h
    · rename_i d ds' h1 h2
      cases h
      exact .cons (dOf_ry h1) (dOfs_ry h2)
    · cases h
end
section
variable {E : Ey} {o : OC} {Q : Y → OC → Prop} {X : XQ}
theorem dOfF_look {fs : List (Nat × Y)} {i : Nat} {y : Y} : ∀ {fs : List (Nat × Y)} {ds : List (Nat × D)}, dOfF fs = some ds → fs.lookup i = some y → ∃ d, ds.lookup i = some d ∧ dOf y = some d
  | [], _, h, l => by cases l
  | (n, z) :: fs, ds, h, l => by
    change (match dOf z, dOfF fs with | some d, some ds => some ((n, d) :: ds) | _, _ => none) = some ds at h
    split at h
    · rename_i d ds' h1 h2
      cases h
      rw [List.lookup_cons] at l ⊢
      cases hb : i == n with
      | true => rw [hb] at l; cases l; exact ⟨d, rfl, h1⟩
      | false => rw [hb] at l; exact dOfF_look (fs := []) h2 l
    · cases h
theorem vE_isX {t : Nat → Nat → Option Bool} {a c : Nat} {k : Bool} {ds : List (Nat × D)} (h : t a c = some k) (q : Q (.bl k) o) : VE (isX t ⟨a, ds⟩ c) E o Q X := by
  unfold isX
  simp only [h]
  exact vE_c (fun _ => .bl _) q
theorem vE_Xf {xa : Nat → List Nat} {a i : Nat} {fs : List (Nat × Y)} {ds : List (Nat × D)} {y : Y} (hd : dOfF fs = some ds) (h : (xa a).elem i = true) (l : fs.lookup i = some y) (q : Q y o) : VE (dXf xa ⟨a, ds⟩ i) E o Q X := by
  obtain ⟨d, e1, e2⟩ := dOfF_look (fs := []) hd l
  unfold dXf
  simp only [h, if_true, e1]
  exact vE_c (fun v => dOf_ry e2) q
def suOf (hd : Hd) (y : Xy) : SD := match dOfF y.fs with
  | some fs => hd.suite ⟨y.cls, fs⟩
  | none => sK
theorem vs_try1 {sub : Nat → Nat → Option Bool} {hd : Hd} {b : SD} {Z : ZQ} {W : XS} (p : VS b E o Z (tryW sub hd (suOf hd) Z W)) : VS (sTry sub b hd) E o Z W :=
  vs_try (fun v x y r E o Z q e h re s => by
    obtain ⟨r1, r2⟩ := r
    obtain ⟨xc, xf⟩ := x
    obtain ⟨yc, yf⟩ := y
    simp only at r1 r2
    subst r1
    unfold suOf at q
    dsimp only at q
    split at q
    · rename_i fs e1
      rw [dOfF_eq e1 r2]
      exact q v e h re s
    · exact (q v e h re s).elim) p
theorem tw_inF {sub : Nat → Nat → Option Bool} {hd : Hd} {Z : ZQ} {W : XS} {c : Nat} {fs : List (Nat × Y)} {ds : List (Nat × D)} (h : sub c hd.cls = some true) (hs : slotOk (E.map fun _ => none) hd.slot = true) (hf : dOfF fs = some ds)
    (p : VS (hd.suite ⟨c, ds⟩) (match hd.slot with | some i => E.set i none | none => E) o (fun f E2 o2 => Z f (match hd.slot with | some i => E2.set i none | none => E2) o2) nos) : tryW sub hd (suOf hd) Z W ⟨c, fs⟩ E o := .inl ⟨h, hs, by
  unfold suOf
  simp only [hf]
  exact p⟩
end
section
variable {o : OC} {Q : Y → OC → Prop} {X : XQ} {n : Nat} {c : C} {k : C → OC} {ys : List Y}
end
end Mn
namespace Mn
open PySem
section
variable {E : Ey} {o : OC} {Q : Y → OC → Prop} {X : XQ} {x : Y} {b : SD} {Z : ZQ} {W : XS} {sub : Nat → Nat → Option Bool}
end
end Mn
namespace Mn
open PySem
section
variable {v0 v v2 : Vw} {o : OC} {h0 h h2 : Hh} {p : Nat} {acc : List Y}
end
section
variable {E : Ey} {o : OC} {Q : Y → OC → Prop} {X : XQ}
end
end Mn
namespace Mn
open PySem
mutual
def Y.sub (n : Nat) (w : Y) : Y → Y
  | .tup ys => .tup (Y.subs n w ys)
  | .lst ys => .lst (Y.subs n w ys)
  | .frz ys => .frz (Y.subs n w ys)
  | .ins c fs => .ins c (Y.subF n w fs)
  | .own m => if m = n then w else .own m
  | .non => .non
  | .bl b => .bl b
  | .int i => .int i
  | .str s => .str s
  | .rg a b => .rg a b
def Y.subs (n : Nat) (w : Y) : List Y → List Y
  | [] => []
  | y :: ys => Y.sub n w y :: Y.subs n w ys
def Y.subF (n : Nat) (w : Y) : List (Nat × Y) → List (Nat × Y)
  | [] => []
  | (i, y) :: ys => (i, Y.sub n w y) :: Y.subF n w ys
end
mutual
theorem RY.sub {v : Vw} {n : Nat} {w : Y} (hw : RY v (.ref n) w) : ∀ {d : D} {y : Y}, RY v d y → RY v d (Y.sub n w y)
  | _, _, .non => .non
  | _, _, .bl b => .bl b
  | _, _, .int i => .int i
  | _, _, .str s => .str s
  | _, _, .rg a b => .rg a b
  | _, _, .tup r => .tup (RYs.sub hw r)
  | _, _, .lst e r => .lst e (RYs.sub hw r)
  | _, _, .frz e r => .frz e (RYs.sub hw r)
  | _, _, .ins e r => .ins e (RFs.sub hw r)
  | _, _, .own (n := m) => by
    rw [Y.sub]
    split
    · rename_i e; subst e; exact hw
    · exact .own
theorem RYs.sub {v : Vw} {n : Nat} {w : Y} (hw : RY v (.ref n) w) : ∀ {ds : List D} {ys : List Y}, RYs v ds ys → RYs v ds (Y.subs n w ys)
  | _, _, .nil => .nil
  | _, _, .cons a r => .cons (RY.sub hw a) (RYs.sub hw r)
theorem RFs.sub {v : Vw} {n : Nat} {w : Y} (hw : RY v (.ref n) w) : ∀ {ds : List (Nat × D)} {ys : List (Nat × Y)}, RFs v ds ys → RFs v ds (Y.subF n w ys)
  | _, _, .nil => .nil
  | _, _, .cons a r => .cons (RY.sub hw a) (RFs.sub hw r)
end
def C.sub (n : Nat) (w : Y) : C → C
  | .lst ys => .lst (Y.subs n w ys)
  | .ins c fs => .ins c (Y.subF n w fs)
theorem RC.sub {v : Vw} {n : Nat} {w : Y} (hw : RY v (.ref n) w) {x : O} {c : C} : RC v x c → RC v x (c.sub n w)
  | .lst r => .lst (RYs.sub hw r)
  | .ins r => .ins (RFs.sub hw r)
abbrev OC.sub (n : Nat) (w : Y) (o : OC) : OC := o.map fun p => (p.1, p.2.sub n w)
theorem OC.sub_ks (n : Nat) (w : Y) (o : OC) : (o.sub n w).ks = o.ks := by
  show List.map _ (List.map _ _) = _
  rw [List.map_map]
  rfl
theorem Sat.sub {v : Vw} {o : OC} {h : Hh} {n : Nat} {w : Y} (s : Sat v o h) (hw : RY v (.ref n) w) : Sat v (o.sub n w) h where
  vw := s.vw
  oc := fun p hp => by
    obtain ⟨q, hq, rfl⟩ := List.mem_map.mp hp
    obtain ⟨x, h1, h2, h3⟩ := s.oc q hq
    exact ⟨x, h1, h2, h3.sub hw⟩
  nd := by rw [OC.sub_ks]; exact s.nd
theorem Fr.sub {v v' : Vw} {o o' : OC} {h h' : Hh} (n : Nat) (w : Y) (f : Fr v o h v' o' h') : Fr v o h v' (o'.sub n w) h' :=
  ⟨f.mono, fun m x e k => by rw [OC.sub_ks]; exact f.keep m x e k⟩
abbrev Ey.sub (n : Nat) (w : Y) (E : Ey) : Ey := E.map fun y => y.map (Y.sub n w)
theorem REy.sub {v : Vw} {e : Ev} {E : Ey} {n : Nat} {w : Y} (r : REy v e E) (hw : RY v (.ref n) w) : REy v e (Ey.sub n w E) where
  len := by rw [List.length_map]; exact r.len
  at_ := fun i y hi => by
    rw [List.getElem?_map] at hi
    cases hE : E[i]? with
    | none => rw [hE] at hi; cases hi
    | some z =>
      rw [hE] at hi
      cases z with
      | none => cases hi
      | some z =>
        cases hi
        obtain ⟨d, h1, h2⟩ := r.at_ i z hE
        exact ⟨d, h1, RY.sub hw h2⟩
end Mn
namespace Mn
open PySem
section
variable {E : Ey} {o : OC} {Q : Y → OC → Prop} {Qb : Bool → OC → Prop} {X : XQ} {i : Int} {b : Bool} {s : Str}
theorem vE_cI (q : Q (.int i) o) : VE (dC (.int i)) E o Q X := vE_c (fun _ => .int _) q
theorem vE_cB (q : Q (.bl b) o) : VE (dC (.bl b)) E o Q X := vE_c (fun _ => .bl _) q
theorem vE_cS (q : Q (.str s) o) : VE (dC (.str s)) E o Q X := vE_c (fun _ => .str _) q
theorem vE_cN (q : Q .non o) : VE (dC .non) E o Q X := vE_c (fun _ => .non) q
theorem tb_b {k : Bool} (q : Qb k o) : TB (.bl k) o Qb := ⟨k, rfl, q⟩
def yR (q : Rat) : Y := .tup [.int q.num, .int (q.den : Int)]
theorem x_r0 {a : Rat} (q : Q (.int a.num) o) : VO2 ixD (yR a) (.int 0) o Q X := x_tup rfl q
theorem x_r1 {a : Rat} (q : Q (.int (a.den : Int)) o) : VO2 ixD (yR a) (.int 1) o Q X := x_tup rfl q
theorem cnd_rt {A B : Prop} {k : Bool} (h : k = true) (q : A) : cnd k A B := by subst h; exact q
theorem cnd_rf {A B : Prop} {k : Bool} (h : k = false) (q : B) : cnd k A B := by subst h; exact q
theorem szT {n : Nat} {B : Prop} (h : Nat.ble n szl = true) (b : B) : n ≤ szl ∧ B := ⟨Nat.le_of_ble_eq_true h, b⟩
theorem plT {k : Bool} {B : Prop} (h : k = true) (b : B) : k = true ∧ B := ⟨h, b⟩
mutual
def yOfD : D → Y
  | .non => .non
  | .bl b => .bl b
  | .int i => .int i
  | .str s => .str s
  | .tup ds => .tup (yOfDs ds)
  | .ref _ => .non
  | .rg a b => .rg a b
def yOfDs : List D → List Y
  | [] => []
  | d :: ds => yOfD d :: yOfDs ds
end
mutual
def cD : D → Bool
  | .ref _ => false
  | .tup ds => cDs ds
  | _ => true
def cDs : List D → Bool
  | [] => true
  | d :: ds => cD d && cDs ds
end
mutual
theorem cD_Y {v : Vw} : ∀ (d : D), cD d = true → RY v d (yOfD d)
  | .non, _ => .non
  | .bl b, _ => .bl b
  | .int i, _ => .int i
  | .str s, _ => .str s
  | .tup ds, h => .tup (cDs_Y ds h)
  | .ref _, h => by cases h
  | .rg a b, _ => .rg a b
theorem cDs_Y {v : Vw} : ∀ (ds : List D), cDs ds = true → RYs v ds (yOfDs ds)
  | [], _ => .nil
  | d :: ds, h => by
    have h' : (cD d && cDs ds) = true := h
    rw [Bool.and_eq_true] at h'
    exact .cons (cD_Y d h'.1) (cDs_Y ds h'.2)
end
def cutZ (J : Ey → OC → Prop) (Z : ZQ) : ZQ := fun f E o => match f with
  | .nx => J E o
  | f => Z f E o
theorem cz_nx {J : Ey → OC → Prop} {Z : ZQ} (q : J E o) : cutZ J Z .nx E o := q
theorem vs_cut {a b : SD} {Z : ZQ} {W : XS} (J : Ey → OC → Prop) (p : VS a E o (cutZ J Z) W) (q : ∀ E o, J E o → VS b E o Z W) : VS (sSq a b) E o Z W :=
  vs_sq (p.mono (fun l E o h => by cases l <;> first | exact q E o h | exact h) fun _ _ _ h => h)
theorem ret_p {r y : Y} (q : y = r) : Ret y o (fun y o => y = r ∧ o = []) := ret_0 ⟨q, rfl⟩
end
theorem atI_mapI {α : Type} (f : α → Y) {xs : List α} {i : Int} (h0 : 0 ≤ i) (h1 : i < xs.length) : L2.atI (xs.map f) i = some (f (xs[i.toNat]'(by omega))) := by
  have e : i = ((i.toNat : Nat) : Int) := by omega
  conv => lhs; rw [e]
  refine atI_nat ?_
  rw [List.getElem?_map, List.getElem?_eq_getElem (by omega)]
  rfl
theorem log2_le_of {n k : Nat} (h : n < 2 ^ k) : n.log2 ≤ k := by
  by_cases z : n = 0
  · subst z; exact Nat.zero_le _
  · exact Nat.le_of_lt ((Nat.log2_lt z).mpr h)
theorem cMul_of {i j : Int} {k l : Nat} (hi : i.natAbs < 2 ^ k) (hj : j.natAbs < 2 ^ l) (h : k + l < 100000000) : cMul i j := by
  have := log2_le_of hi
  have := log2_le_of hj
  unfold cMul
  omega
theorem cDiv_of {j : Int} {k : Nat} (hj : j.natAbs < 2 ^ k) (h : k < 9000) (h0 : j ≠ 0) : cDiv j := by
  have := log2_le_of hj
  exact ⟨h0, by omega⟩
def Bd (k : Nat) (q : Rat) : Prop := q.num.natAbs < 2 ^ k ∧ q.den < 2 ^ k
theorem Bd.mono {k l : Nat} {q : Rat} (h : Bd k q) (hl : k ≤ l) : Bd l q := ⟨Nat.lt_of_lt_of_le h.1 (Nat.pow_le_pow_right (by decide) hl), Nat.lt_of_lt_of_le h.2 (Nat.pow_le_pow_right (by decide) hl)⟩
theorem natAbs_div_le (a : Int) (n : Nat) : (a / (n : Int)).natAbs ≤ a.natAbs := by
  cases n with
  | zero => simp
  | succ n => exact Int.natAbs_ediv_le_natAbs a _
theorem Bd.mk {p : Int} {q k : Nat} (hk : 0 < k) (hp : p.natAbs < 2 ^ k) (hq : q < 2 ^ k) : Bd k (mkRat p q) := by
  refine ⟨?_, ?_⟩
  · rw [Rat.num_mkRat]
    split
    · exact Nat.two_pow_pos k
    · refine Nat.lt_of_le_of_lt ?_ hp
      exact natAbs_div_le _ _
  · rw [Rat.den_mkRat]
    split
    · subst q
      cases k with
      | zero => omega
      | succ k => have := Nat.two_pow_pos k; rw [Nat.pow_succ]; omega
    · exact Nat.lt_of_le_of_lt (Nat.div_le_self _ _) hq
theorem Bd.neg {k : Nat} {q : Rat} (h : Bd k q) : Bd k (-q) := ⟨by rw [Rat.neg_num, Int.natAbs_neg]; exact h.1, by rw [Rat.neg_den]; exact h.2⟩
theorem pow_mul_lt {a b k l : Nat} (ha : a < 2 ^ k) (hb : b < 2 ^ l) : a * b < 2 ^ (k + l) := by
  rw [Nat.pow_add]
  exact Nat.mul_lt_mul'' ha hb
theorem Bd.add {k l : Nat} {a b : Rat} (ha : Bd k a) (hb : Bd l b) : Bd (k + l + 1) (a + b) := by
  rw [Rat.add_def']
  refine Bd.mk (by omega) ?_ ?_
  · refine Nat.lt_of_le_of_lt (Int.natAbs_add_le _ _) ?_
    rw [Int.natAbs_mul, Int.natAbs_mul, Int.natAbs_natCast, Int.natAbs_natCast]
    have h1 := pow_mul_lt ha.1 hb.2
    have h2 := pow_mul_lt hb.1 ha.2
    rw [Nat.add_comm l k] at h2
    rw [Nat.pow_succ]
    omega
  · have := pow_mul_lt ha.2 hb.2
    rw [Nat.pow_succ]
    omega
theorem Bd.sub {k l : Nat} {a b : Rat} (ha : Bd k a) (hb : Bd l b) : Bd (k + l + 1) (a - b) := by
  rw [Rat.sub_eq_add_neg]
  exact ha.add hb.neg
theorem Bd.zero : Bd 1 0 := ⟨by decide, by decide⟩
theorem divInt_parts {p q : Int} (hq : q ≠ 0) : (Rat.divInt p q).num = p.fdiv (if q < 0 then -((Nat.gcd p.natAbs q.natAbs : Nat) : Int) else ((Nat.gcd p.natAbs q.natAbs : Nat) : Int)) ∧
    ((Rat.divInt p q).den : Int) = q.fdiv (if q < 0 then -((Nat.gcd p.natAbs q.natAbs : Nat) : Int) else ((Nat.gcd p.natAbs q.natAbs : Nat) : Int)) := by
  have g0 : Nat.gcd p.natAbs q.natAbs ≠ 0 := fun z => hq (Int.natAbs_eq_zero.mp (Nat.gcd_eq_zero_iff.mp z).2)
  generalize hg : Nat.gcd p.natAbs q.natAbs = g at *
  have dp : (g : Int) ∣ p := Int.ofNat_dvd_left.mpr (hg ▸ Nat.gcd_dvd_left _ _)
  have dq : (g : Int) ∣ q := Int.ofNat_dvd_left.mpr (hg ▸ Nat.gcd_dvd_right _ _)
  have gc : q.gcd p = g := by unfold Int.gcd; rw [Nat.gcd_comm]; exact hg
  obtain ⟨a, rfl⟩ := dp
  obtain ⟨b, rfl⟩ := dq
  have gp : (0 : Int) < g := by omega
  rw [Rat.num_divInt, Rat.den_divInt, gc, if_neg hq]
  have f1 : ∀ x : Int, ((g : Int) * x).fdiv g = x := fun x => by rw [Int.mul_comm]; exact Int.mul_fdiv_cancel _ (by omega)
  have f2 : ∀ x : Int, ((g : Int) * x).fdiv (-(g : Int)) = -x := fun x => by
    have : (g : Int) * x = (-x) * (-(g : Int)) := by rw [Int.neg_mul_neg, Int.mul_comm]
    rw [this]; exact Int.mul_fdiv_cancel _ (by omega)
  by_cases hn : (g : Int) * b < 0
  · rw [if_pos hn, f2, f2]
    have hb : b < 0 := by
      rcases Int.lt_trichotomy b 0 with h | h | h
      · exact h
      · subst h; simp at hn
      · exact absurd (Int.mul_pos gp h) (by omega)
    rw [Int.sign_eq_neg_one_of_neg hn]
    refine ⟨?_, ?_⟩
    · rw [Int.neg_one_mul, ← Int.mul_neg]; exact Int.mul_ediv_cancel_left _ (by omega)
    · rw [Int.natAbs_mul, Int.natAbs_natCast, Nat.mul_div_cancel_left _ (by omega)]; omega
  · rw [if_neg hn, f1, f1]
    have hb : 0 < b := by
      rcases Int.lt_trichotomy b 0 with h | h | h
      · exact absurd (Int.mul_neg_of_pos_of_neg gp h) hn
      · subst h; simp at hq
      · exact h
    rw [Int.sign_eq_one_of_pos (Int.mul_pos gp hb), Int.one_mul]
    refine ⟨Int.mul_ediv_cancel_left _ (by omega), ?_⟩
    rw [Int.natAbs_mul, Int.natAbs_natCast, Nat.mul_div_cancel_left _ (by omega)]; omega
mutual
theorem eqY_refl : ∀ y : Y, eqY y y = true
  | .non => rfl
  | .bl b => by simp [eqY, pdY, PyData.eqv]
  | .int i => by simp [eqY, pdY, PyData.eqv]
  | .str s => by simp [eqY, pdY, PyData.eqv]
  | .tup ys => eqYs_refl ys
  | .lst ys => eqYs_refl ys
  | .frz ys => eqYs_refl ys
  | .ins _ _ => rfl
  | .own _ => rfl
  | .rg _ _ => rfl
theorem eqYs_refl : ∀ ys : List Y, PyData.eqvAll (pdYs ys) (pdYs ys) = true
  | [] => rfl
  | y :: ys => by
    simp only [pdYs, PyData.eqvAll, Bool.and_eq_true]
    exact ⟨eqY_refl y, eqYs_refl ys⟩
end
section
variable {o : OC} {Q : Y → OC → Prop} {X : XQ} {x l : Y} {ys : List Y}
end
end Mn
namespace Mn
open PySem
local macro_rules | `(tactic| walk_at "at") => `(tactic| first | exact At.here | exact At.there At.here | exact At.there (At.there At.here) | exact At.there (At.there (At.there At.here)))
local macro_rules | `(tactic| walk_at "ls") => `(tactic| first | exact Ls.lst _ | exact Ls.frz _ | (refine' Ls.own ?hat; (case hat => walk_at "at")))
local macro_rules | `(tactic| walk_at "lw") => `(tactic| first | exact Lw.lst _ | exact Lw.frz _ | (refine' Lw.own ?hat; (case hat => walk_at "at")))
local macro_rules | `(tactic| walk_at "is") => `(tactic| first | exact Is.ins _ _ | (refine' Is.own ?hat; (case hat => walk_at "at")))
local macro_rules | `(tactic| walk_at "rm") => `(tactic| first | exact Rm.here | exact Rm.there Rm.here | exact Rm.there (Rm.there Rm.here) | exact Rm.there (Rm.there (Rm.there Rm.here)))
local macro_rules | `(tactic| walk_at "fz") => `(tactic| (repeat (first | exact Fz.nil | apply Fz.chg | apply Fz.keep)))
local macro_rules | `(tactic| walk_at "set") => `(tactic| (try (conv => arg 2; dsimp only [List.set, setY])))
local macro_rules | `(tactic| walk_at "v0") => `(tactic| (conv => arg 2; simp only [startY, List.map_cons, List.map_nil, List.length_cons, List.length_nil, Nat.reduceAdd, Nat.reduceSub, Nat.zero_add, List.replicate, List.cons_append, List.nil_append, List.append_nil]))
local macro_rules | `(tactic| walk_at "s1") => `(tactic| first
  | (with_reducible refine vs_sq ?_)
  | (with_reducible refine vs_if ?_)
  | (with_reducible refine vs_asN ?_)
  | (with_reducible refine vs_asI ?_)
  | (with_reducible refine vs_rt ?_)
  | (with_reducible refine vs_ex ?_)
  | (with_reducible refine vs_nx ?_)
  | (with_reducible refine vs_aug ?_)
  | (with_reducible refine vs_raise ?_)
  | (with_reducible refine vs_try1 ?_)
  | (with_reducible refine vs_par ?_)
  | (with_reducible refine vs_augI ?_)
  | (with_reducible refine vs_fl ?_)
  | (with_reducible refine vs_raiseA ?_)
  | (with_reducible refine vs_augF ?_)
  | (with_reducible refine vs_bk ?_)
  | (with_reducible refine vs_ct ?_))
local macro_rules | `(tactic| walk_at "e1") => `(tactic| first
  | ((with_reducible refine' vE_v ?hi ?_); (case hi => exact rfl))
  | (with_reducible refine vE_cI ?_)
  | (with_reducible refine vE_Ix ?_)
  | (with_reducible refine vE_B ?_)
  | (with_reducible refine vE_Cmp ?_)
  | (with_reducible refine vE_Call0 ?_)
  | (with_reducible refine vE_c0 ?_)
  | (with_reducible refine vE_c1 ?_)
  | (with_reducible refine vE_cB ?_)
  | (with_reducible refine vE_cN ?_)
  | (with_reducible refine vE_cS ?_)
  | ((with_reducible refine vE_cD rfl ?_); dsimp only [yOfDs, yOfD])
  | ((with_reducible refine vE_CallD rfl ?_); dsimp only [yOfDs, yOfD])
  | (with_reducible refine vE_Is ?_)
  | (with_reducible refine vE_t01 ?_)
  | (with_reducible refine vE_t11 ?_)
  | (with_reducible refine vE_Tup ?_)
  | (with_reducible refine vE_M ?_)
  | (with_reducible refine vE_U ?_)
  | (with_reducible refine vE_Lst false ?_)
  | (with_reducible refine vE_AndT ?_)
  | (with_reducible refine vE_OrT ?_)
  | (with_reducible refine vE_NotT ?_)
  | (with_reducible refine vE_If ?_)
  | (with_reducible refine vE_Ch ?_)
  | (with_reducible refine vE_Sl ?_)
  | (with_reducible refine vE_Fld ?_))
local macro_rules | `(tactic| walk_at "t1") => `(tactic| first
  | (with_reducible refine vT_B ?_)
  | (with_reducible refine vT_Not ?_)
  | (with_reducible refine vT_And ?_)
  | (with_reducible refine vT_Or ?_)
  | (with_reducible refine vT_E ?_)
  | (with_reducible refine vT_Y ?_))
local macro_rules | `(tactic| walk_at "b1") => `(tactic| first
  | (with_reducible refine b_add ?_)
  | (with_reducible refine b_sub ?_)
  | (with_reducible refine b_mul (by assumption) ?_)
  | (with_reducible refine b_div (by assumption) ?_)
  | ((with_reducible refine' b_mod ?hc ?_); (case hc => first | assumption | omega))
  | ((with_reducible refine' b_div ?hc ?_); (case hc => (with_reducible show cDiv (OfNat.ofNat _)); exact ⟨by decide, by decide⟩))
  | ((with_reducible refine' b_pow ?hc ?_); (case hc => decide)))
local macro_rules | `(tactic| walk_at "c1") => `(tactic| first
  | (with_reducible refine c_eqI ?_)
  | (with_reducible refine c_neI ?_)
  | (with_reducible refine c_eqS ?_)
  | (with_reducible refine c_neS ?_)
  | (with_reducible refine c_eqB ?_)
  | (with_reducible refine c_neB ?_)
  | (with_reducible refine c_lt ?_)
  | (with_reducible refine c_le ?_)
  | (with_reducible refine c_gt ?_)
  | (with_reducible refine c_ge ?_)
  | (with_reducible refine c_is ?_)
  | (with_reducible refine c_isB ?_)
  | (with_reducible refine c_isntB ?_)
  | (with_reducible refine c_isnt ?_)
  | (with_reducible refine c_eqR ?_)
  | (with_reducible refine c_neR ?_))
local macro_rules | `(tactic| walk_at "i1") => `(tactic| first
  | (with_reducible refine x_r0 ?_)
  | (with_reducible refine x_r1 ?_)
  | ((with_reducible refine' x_lst ?hl ?hi ?_); (case hl => walk_at "ls"); (case hi => exact rfl))
  | ((with_reducible refine' x_tup ?hi ?_); (case hi => exact rfl)))
local macro_rules | `(tactic| walk_at "f1") => `(tactic| first
  | (with_reducible refine f_gcd ?_)
  | (with_reducible refine f_int ?_)
  | (with_reducible refine f_intB ?_)
  | (with_reducible refine f_abs ?_)
  | (with_reducible refine f_lenT ?_)
  | (with_reducible refine f_tupleT ?_)
  | (with_reducible refine f_min ?_)
  | (with_reducible refine f_rng1 ?_)
  | (with_reducible refine f_max ?_)
  | ((with_reducible refine' f_str ?hc ?_); (case hc => assumption))
  | ((with_reducible refine' f_strL ?hc ?_); (case hc => assumption))
  | ((with_reducible refine' f_len ?hl ?_); (case hl => walk_at "ls"))
  | ((with_reducible refine' f_list false ?hl ?_); (case hl => walk_at "ls")))
local macro_rules | `(tactic| walk_at "z1") => `(tactic| first
  | (with_reducible refine tb_b ?_)
  | (with_reducible refine os_i ?_)
  | ((with_reducible refine' cnd_rt ?hk ?_); (case hk => rfl))
  | ((with_reducible refine' cnd_rf ?hk ?_); (case hk => rfl))
  | (with_reducible refine cnd_d (fun _ => ?_) (fun _ => ?_))
  | (with_reducible refine cnd_t ?_)
  | (with_reducible refine cnd_f ?_)
  | (with_reducible refine cnd_n ?_)
  | (with_reducible refine cnd_i (fun _ => ?_) (fun _ => ?_))
  | ((with_reducible refine sq_nx ?_); walk_at "set")
  | (with_reducible refine sq_rt ?_)
  | ((with_reducible refine cz_nx ?_); try dsimp only [List.set, setY])
  | (with_reducible refine cz_rt ?_)
  | (with_reducible refine cz_bk ?_)
  | (with_reducible refine cz_ct ?_)
  | (with_reducible refine fn_rt ?_)
  | (with_reducible refine fn_nx ?_)
  | (with_reducible refine szT rfl ?_)
  | (with_reducible refine plT rfl ?_)
  | (with_reducible refine u_neg ?_)
  | (with_reducible refine NL.fz ?_)
  | (with_reducible refine NL.ow fun _ _ => ?_)
  | ((with_reducible refine' st_own ?ha ?hi ?_); (case ha => walk_at "at"); (case hi => exact rfl); try dsimp only [List.set, Int.reduceToNat])
  | (with_reducible refine tr_b ?_)
  | (with_reducible refine tr_i ?_)
  | (with_reducible refine tr_n ?_)
  | (with_reducible refine i_add ?_)
  | (with_reducible refine i_sub ?_)
  | (with_reducible refine sq_bk ?_)
  | (with_reducible refine sq_ct ?_)
  | ((with_reducible refine lz_nx ?_); try dsimp only [List.set, setY])
  | ((with_reducible refine lz_ct ?_); try dsimp only [List.set, setY])
  | ((with_reducible refine lz_bk ?_); try dsimp only [List.set, setY])
  | (with_reducible refine lz_rt ?_)
  | (with_reducible contradiction)
  | ((with_reducible refine ret_p ?_); try with_reducible rfl))
local macro_rules | `(tactic| walk_at "l1") => `(tactic| first
  | (with_reducible refine vO_N ?_)
  | (with_reducible refine vO_S ?_)
  | (with_reducible refine sl_t ?_)
  | ((with_reducible refine' sl_l false ?hl ?_); (case hl => walk_at "ls"))
  | ((with_reducible refine' sl_s ?hl ?_); (case hl => assumption)))
local macro_rules | `(tactic| walk_at "v1") => `(tactic| first
  | ((with_reducible show VOp _ _ _ _ _); walk_at "l1")
  | ((with_reducible show VSl _ _ _ _ _ _); walk_at "l1")
  | ((with_reducible show VE _ _ _ _ _); walk_at "e1")
  | ((with_reducible show VO (fldD _) _ _ _ _); refine' fl_is ?hl ?hi ?_; (case hl => walk_at "is"); (case hi => exact rfl))
  | ((with_reducible show VPut _ _ _ _ _ _); refine' pt_own ?ha ?hn ?hl ?_; (case ha => walk_at "at"); (case hn => exact rfl); (case hl => exact Nat.le_of_ble_eq_true rfl))
  | ((with_reducible show VS _ _ _ _ _); walk_at "s1")
  | ((with_reducible show VA _ _ _ _ _); first | (with_reducible refine vA_C ?_) | (with_reducible refine vA_N ?_))
  | ((with_reducible show VT _ _ _ _ _); walk_at "t1")
  | ((with_reducible show VO2 (bop _) _ _ _ _ _); walk_at "b1")
  | ((with_reducible show VO2 (bcmp _) _ _ _ _ _); walk_at "c1")
  | ((with_reducible show VO2 ixD _ _ _ _ _); walk_at "i1")
  | ((with_reducible show VF _ _ _ _ _); walk_at "f1")
  | walk_at "z1")
local macro_rules | `(tactic| walk_at "v") => `(tactic| (repeat' (walk_at "v1")))
local macro_rules | `(tactic| walk_at "w") => `(tactic| (repeat' ((fail_if_success (with_reducible show VS (sSq (sIf _ _ _) _) _ _ _ _)); walk_at "v1")))
local macro_rules | `(tactic| walk_at "vl") => `(tactic| (repeat' ((fail_if_success (with_reducible show VE (dLst _) _ _ _ _)); walk_at "v1")))
local macro_rules | `(tactic| walk_at "vk") => `(tactic| (repeat' ((fail_if_success (with_reducible show VF fList _ _ _ _)); walk_at "v1")))
local macro_rules | `(tactic| walk_at "vt") => `(tactic| (repeat' ((fail_if_success (with_reducible show Ret _ _ _)); walk_at "v1")))
local macro_rules | `(tactic| walk_at "wi") => `(tactic| (repeat' ((fail_if_success (with_reducible show VS (sIf _ _ _) _ _ _ _)); walk_at "v1")))
local macro_rules | `(tactic| walk_at "vx") => `(tactic| (repeat' ((fail_if_success (with_reducible show VS _ _ _ _ _)); walk_at "v1")))
section
section
variable {E : Ey} {o : OC} {Q Q' : Y → OC → Prop} {X : XQ}
theorem v_split (own : Bool) {a b : Str} (hb : (b.length == 0) = false) (hl : a.length + 2 ≤ szl) (q : NL own ((Txt.split a b).map .str) o Q) : VM mSplit (.str a) [.str b] o Q X := fun v d ds h r rs s => by
  cases r
  cases rs with
  | cons r1 r2 =>
    cases r2
    cases r1
    show PR RY v o h (if (b.length == 0) = false ∧ a.length + 2 ≤ szl then _ else _) Q X
    rw [if_pos ⟨hb, hl⟩]
    exact q.out s (RYs.strs _)
end
end
section
abbrev mkS (l : List Nat) : Str := ⟨l.toArray⟩
theorem tl_mk (l : List Nat) : TL.tl (mkS l) = l := by simp [TL.tl]
theorem tl_ext {a b : Str} (h : TL.tl a = TL.tl b) : a = b := TL.ext_tl h
theorem cut_to (z : Str) (k : Nat) : TL.tl (L2.cutS z none (some (k : Int))) = (TL.tl z).take k := by
  unfold L2.cutS
  rw [HT.sIx_nat, HT.sIx_none]
  show ((TL.tl z).drop 0).take _ = _
  rw [List.drop_zero, Nat.sub_zero, TL.len_tl, ← List.take_take, List.take_length]
theorem cut_from (z : Str) (k : Nat) : TL.tl (L2.cutS z (some (k : Int)) none) = (TL.tl z).drop k := by
  unfold L2.cutS
  rw [HT.sIx_nat, HT.sIx_none]
  show ((TL.tl z).drop _).take _ = _
  rw [TL.len_tl]
  by_cases h : k ≤ (TL.tl z).length
  · rw [Nat.min_eq_left h, List.take_of_length_le (by rw [List.length_drop]; exact Nat.le_refl _)]
  · rw [Nat.min_eq_right (by omega), List.drop_eq_nil_of_le (Nat.le_refl _), List.drop_eq_nil_of_le (by omega)]
    exact List.take_nil
theorem mkS_inj {a b : List Nat} (h : mkS a = mkS b) : a = b := by rw [← tl_mk a, ← tl_mk b, h]
end
section
def spS : List Nat → List (List Nat)
  | [] => [[]]
  | c :: r => if c = 47 then [] :: spS r else match spS r with
    | p :: ps => (c :: p) :: ps
    | [] => [[c]]
theorem spS_ne : ∀ l : List Nat, spS l ≠ []
  | [] => by simp [spS]
  | c :: r => by
    unfold spS
    split
    · simp
    · split <;> simp
theorem spS_cons {c : Nat} {r : List Nat} (h : c ≠ 47) : ∃ p ps, spS r = p :: ps ∧ spS (c :: r) = (c :: p) :: ps := by
  cases e : spS r with
  | nil => exact absurd e (spS_ne r)
  | cons p ps =>
    refine ⟨p, ps, rfl, ?_⟩
    show (if c = 47 then _ else _) = _
    rw [if_neg h, e]
theorem spS_hit (r : List Nat) : spS (47 :: r) = [] :: spS r := by
  show (if 47 = 47 then _ else _) = _
  rw [if_pos rfl]
theorem spl_spS : ∀ (l acc : List Nat), ∃ p ps, spS l = p :: ps ∧ TL.spl [47] 0 acc l = (acc ++ p) :: ps
  | [], acc => ⟨[], [], rfl, by rw [TL.spl_nil, List.append_nil]⟩
  | c :: r, acc => by
    by_cases h : c = 47
    · subst h
      obtain ⟨p, ps, e1, e2⟩ := spl_spS r []
      refine ⟨[], spS r, spS_hit r, ?_⟩
      rw [TL.spl_hit (by rfl), List.append_nil, e1]
      show acc :: TL.spl [47] 0 [] r = _
      rw [e2, List.nil_append]
    · obtain ⟨p, ps, e1, e2⟩ := spl_spS r (acc ++ [c])
      obtain ⟨p', ps', e3, e4⟩ := spS_cons (r := r) h
      rw [e1] at e3
      cases e3
      refine ⟨_, _, e4, ?_⟩
      rw [TL.spl_miss (by unfold TL.pre; simp [Ne.symm h, h]), e2, List.append_assoc]
      rfl
theorem spl_eq (l : List Nat) : TL.spl [47] 0 [] l = spS l := by
  obtain ⟨p, ps, e1, e2⟩ := spl_spS l []
  rw [e1, e2, List.nil_append]
theorem spS_one : ∀ {p : List Nat}, 47 ∉ p → spS p = [p]
  | [], _ => rfl
  | c :: r, h => by
    obtain ⟨p, ps, e1, e2⟩ := spS_cons (r := r) (c := c) fun z => h (by rw [z]; exact List.mem_cons_self ..)
    rw [spS_one fun z => h (List.mem_cons_of_mem _ z)] at e1
    cases e1
    exact e2
theorem spS_two : ∀ {p : List Nat} (q : List Nat), 47 ∉ p → spS (p ++ 47 :: q) = p :: spS q
  | [], q, _ => spS_hit q
  | c :: r, q, h => by
    obtain ⟨p, ps, e1, e2⟩ := spS_cons (r := r ++ 47 :: q) (c := c) fun z => h (by rw [z]; exact List.mem_cons_self ..)
    rw [spS_two q fun z => h (List.mem_cons_of_mem _ z)] at e1
    cases e1
    exact e2
theorem spS_mem {c : Nat} (hc : c ≠ 47) : ∀ {l : List Nat}, c ∈ l → ∃ p ∈ spS l, c ∈ p
  | d :: r, h => by
    by_cases z : d = 47
    · subst z
      rcases List.mem_cons.mp h with e | e
      · exact absurd e hc
      · obtain ⟨p, h1, h2⟩ := spS_mem hc e
        exact ⟨p, by rw [spS_hit]; exact List.mem_cons_of_mem _ h1, h2⟩
    · obtain ⟨p, ps, e1, e2⟩ := spS_cons (r := r) z
      rw [e2]
      rcases List.mem_cons.mp h with e | e
      · exact ⟨_, List.mem_cons_self .., by rw [e]; exact List.mem_cons_self ..⟩
      · obtain ⟨p', h1, h2⟩ := spS_mem hc e
        rw [e1] at h1
        rcases List.mem_cons.mp h1 with e | e
        · exact ⟨_, List.mem_cons_self .., List.mem_cons_of_mem _ (by rw [← e]; exact h2)⟩
        · exact ⟨p', List.mem_cons_of_mem _ e, h2⟩
theorem spS_len : ∀ l : List Nat, (spS l).length = l.count 47 + 1
  | [] => rfl
  | c :: r => by
    by_cases z : c = 47
    · subst z
      rw [spS_hit, List.length_cons, spS_len r, List.count_cons_self]
    · obtain ⟨p, ps, e1, e2⟩ := spS_cons (r := r) z
      have := spS_len r
      rw [e1] at this
      rw [e2, List.count_cons_of_ne z]
      exact this
theorem spS_sum : ∀ l : List Nat, ∀ p ∈ spS l, p.length ≤ l.length
  | [], p, h => by rw [List.mem_singleton.mp h]; exact Nat.le_refl _
  | c :: r, p, h => by
    by_cases z : c = 47
    · subst z
      rw [spS_hit] at h
      rcases List.mem_cons.mp h with e | e
      · rw [e]; exact Nat.zero_le _
      · exact Nat.le_succ_of_le (spS_sum r p e)
    · obtain ⟨p', ps, e1, e2⟩ := spS_cons (r := r) z
      rw [e2] at h
      have ih := spS_sum r
      rw [e1] at ih
      rcases List.mem_cons.mp h with e | e
      · rw [e]; exact Nat.succ_le_succ (ih p' (List.mem_cons_self ..))
      · exact Nat.le_succ_of_le (ih p (List.mem_cons_of_mem _ e))
def numT (a : List Nat) : Bool := decide (1 ≤ a.length ∧ a.length ≤ 12 ∧ ¬ (a.head? = some 48 ∧ 1 < a.length)) && a.all fun c => decide (48 ≤ c ∧ c ≤ 57)
def amT (l : List Nat) : List Nat := if l.take 1 = [45] then l.drop 1 else l
def rdN (l : List Nat) : Option (Int × Nat) := if (spS (amT l)).length > 2 ∨ (spS (amT l)).all numT = false then none else
  let p := NumText.digitsVal ((spS (amT l)).getD 0 [])
  let q := if (spS (amT l)).length = 2 then NumText.digitsVal ((spS (amT l)).getD 1 []) else 1
  if ((spS (amT l)).length = 2 ∧ (q < 2 ∨ Nat.gcd p q ≠ 1)) ∨ (p = 0 ∧ amT l ≠ l) then none else some (if amT l ≠ l then -(p : Int) else p, q)
def ratL (p : Int) (q : Nat) : List Nat := (if p < 0 then 45 :: TL.numL p.natAbs else TL.numL p.natAbs) ++ if q = 1 then [] else 47 :: TL.numL q
theorem numL_12 {n : Nat} (h : n < 10 ^ 12) : numT (TL.numL n) = true := by
  have h1 := TL.numL_ne n
  have h2 := TL.numL_len (k := 12) (by decide) h
  have h3 := TL.numL_digits n
  have h0 : 1 ≤ (TL.numL n).length := by
    cases e : TL.numL n with
    | nil => exact absurd e h1
    | cons a r => simp
  unfold numT
  rw [Bool.and_eq_true, decide_eq_true_iff, List.all_eq_true]
  refine ⟨⟨h0, h2, fun ⟨z, w⟩ => ?_⟩, fun c hc => decide_eq_true (h3 c hc)⟩
  have key : ∀ m : Nat, 0 < m → (TL.numL m).head? ≠ some 48 := fun m => by
    induction m using Nat.strongRecOn with
    | _ m ih =>
      intro hm z
      by_cases hl : m < 10
      · rw [TL.numL_lt hl] at z
        have := Option.some.inj z
        omega
      · rw [TL.numL_step (by omega)] at z
        cases e : TL.numL (m / 10) with
        | nil => exact TL.numL_ne _ e
        | cons a r =>
          rw [e] at z
          refine ih (m / 10) (by omega) (by omega) ?_
          rw [e]
          exact z
  by_cases hn : n = 0
  · subst hn
    rw [TL.numL_lt (by decide)] at w
    simp at w
  · exact key n (by omega) z
theorem slash_num {n : Nat} : 47 ∉ TL.numL n := TL.numL_free (by decide)
theorem numT_bad {a : List Nat} {c : Nat} (hc : c ∈ a) (h : c < 48 ∨ 57 < c) : numT a = false := by
  unfold numT
  rw [Bool.and_eq_false_iff]
  refine .inr (List.all_eq_false.mpr ⟨c, hc, ?_⟩)
  rw [decide_eq_true_iff]
  omega
theorem rdN_bad {l : List Nat} (h : (spS (amT l)).length > 2 ∨ (spS (amT l)).all numT = false) : rdN l = none := if_pos h
theorem rdN_chr {l : List Nat} {c : Nat} (hc : c ∈ amT l) (h : c < 47 ∨ 57 < c) : rdN l = none := by
  obtain ⟨p, h1, h2⟩ := spS_mem (by omega) hc
  exact rdN_bad (.inr (List.all_eq_false.mpr ⟨p, h1, by rw [numT_bad h2 (by omega)]; exact Bool.false_ne_true⟩))
theorem am_drop {l : List Nat} {c : Nat} (h : c ∈ l.drop 1) : c ∈ amT l := by
  unfold amT
  split
  · exact h
  · exact List.mem_of_mem_drop h
theorem am_ne {l : List Nat} {c : Nat} (h : c ∈ l) (hc : c ≠ 45) : c ∈ amT l := by
  cases l with
  | nil => cases h
  | cons d r =>
    unfold amT
    split
    · rename_i e
      have e : [d] = [45] := e
      cases e
      rcases List.mem_cons.mp h with z | z
      · exact absurd z hc
      · exact z
    · exact h
theorem rdN_c {l : List Nat} {c : Nat} (h : c ∈ l) (h1 : c < 45 ∨ c = 46 ∨ 57 < c) : rdN l = none := rdN_chr (am_ne h (by omega)) (by omega)
theorem rdN_m {l : List Nat} (h : 45 ∈ l.drop 1) : rdN l = none := rdN_chr (am_drop h) (by decide)
theorem rdN_s {l : List Nat} (h : 2 ≤ l.count 47) : rdN l = none := by
  refine rdN_bad (.inl ?_)
  rw [spS_len]
  have : (amT l).count 47 = l.count 47 := by
    unfold amT
    split
    · rename_i e
      cases l with
      | nil => cases e
      | cons d r =>
        have e : [d] = [45] := e
        cases e
        rw [List.count_cons_of_ne (by decide)]
        rfl
    · rfl
  omega
theorem am_num {n : Nat} (r : List Nat) : amT (TL.numL n ++ r) = TL.numL n ++ r := by
  unfold amT
  refine if_neg fun z => ?_
  cases e : TL.numL n with
  | nil => exact TL.numL_ne n e
  | cons a s =>
    rw [e] at z
    have z : [a] = [45] := z
    cases z
    have := TL.numL_digits n 45 (by rw [e]; exact List.mem_cons_self ..)
    omega
theorem rdN_two {n : Nat} {r : List Nat} (hr : 47 ∉ r) (h : numT r = false ∨ NumText.digitsVal r < 2) : rdN (TL.numL n ++ 47 :: r) = none := by
  have e1 := am_num (n := n) (47 :: r)
  have e2 : spS (TL.numL n ++ 47 :: r) = [TL.numL n, r] := by rw [spS_two _ slash_num, spS_one hr]
  unfold rdN
  rw [e1, e2]
  by_cases hb : ([TL.numL n, r].length > 2 ∨ [TL.numL n, r].all numT = false)
  · rw [if_pos hb]
  · rw [if_neg hb]
    have hr1 : numT r ≠ false := fun z => hb (.inr (by simp [z]))
    have hv : NumText.digitsVal r < 2 := h.resolve_left hr1
    exact if_pos (.inl ⟨rfl, .inl hv⟩)
theorem am_lead {r : List Nat} : amT (48 :: r) = 48 :: r := rfl
theorem rdN_lead {n : Nat} : rdN (48 :: TL.numL n) = none := by
  refine rdN_bad (.inr ?_)
  rw [am_lead, spS_one (fun z => by rcases List.mem_cons.mp z with z | z; cases z; exact slash_num z)]
  have h0 : 1 < (48 :: TL.numL n).length := by
    cases e : TL.numL n with
    | nil => exact absurd e (TL.numL_ne n)
    | cons a r => simp
  have : numT (48 :: TL.numL n) = false := by
    unfold numT
    rw [Bool.and_eq_false_iff]
    exact .inl (decide_eq_false fun z => z.2.2 ⟨rfl, h0⟩)
  simp [this]
theorem rdN_mlead {n : Nat} : rdN (45 :: 48 :: TL.numL n) = none := by
  have e : amT (45 :: 48 :: TL.numL n) = 48 :: TL.numL n := rfl
  refine rdN_bad (.inr ?_)
  rw [e, spS_one (fun z => by rcases List.mem_cons.mp z with z | z; cases z; exact slash_num z)]
  have h0 : 1 < (48 :: TL.numL n).length := by
    cases e : TL.numL n with
    | nil => exact absurd e (TL.numL_ne n)
    | cons a r => simp
  have : numT (48 :: TL.numL n) = false := by
    unfold numT
    rw [Bool.and_eq_false_iff]
    exact .inl (decide_eq_false fun z => z.2.2 ⟨rfl, h0⟩)
  simp [this]
theorem rdN_front {r : List Nat} : rdN (47 :: r) = none := by
  refine rdN_bad (.inr ?_)
  rw [show amT (47 :: r) = 47 :: r from rfl, spS_hit]
  rfl
theorem rdN_rat {p : Int} {q : Nat} (hp : p.natAbs < 10 ^ 12) (hq0 : 0 < q) (hq : q < 10 ^ 12) (hg : Nat.gcd p.natAbs q = 1) : rdN (ratL p q) = some (p, q) := by
  have n1 := numL_12 hp
  have n2 := numL_12 hq
  have key : ∀ (am : List Nat), am = TL.numL p.natAbs ++ (if q = 1 then [] else 47 :: TL.numL q) → spS am = if q = 1 then [TL.numL p.natAbs] else [TL.numL p.natAbs, TL.numL q] := fun am e => by
    rw [e]
    split
    · rw [List.append_nil, spS_one slash_num]
    · rw [spS_two _ slash_num, spS_one slash_num]
  have zero : p = 0 → q = 1 := fun z => by
    subst z
    simpa using hg
  unfold rdN
  by_cases hs : p < 0
  · have e0 : ratL p q = 45 :: (TL.numL p.natAbs ++ if q = 1 then [] else 47 :: TL.numL q) := by unfold ratL; rw [if_pos hs, List.cons_append]
    have e1 : amT (ratL p q) = TL.numL p.natAbs ++ if q = 1 then [] else 47 :: TL.numL q := by rw [e0]; rfl
    have e2 : amT (ratL p q) ≠ ratL p q := by
      rw [e1, e0]
      intro z
      have := congrArg List.length z
      rw [List.length_cons] at this
      omega
    rw [key _ e1]
    by_cases h1 : q = 1
    · rw [if_pos h1, if_neg (by simp [n1])]
      simp only [List.length_singleton, List.getD_cons_zero]
      rw [if_neg (by
        rintro (⟨z, _⟩ | ⟨z, _⟩)
        · cases z
        · rw [TL.numL_val] at z; omega), if_pos e2, TL.numL_val, if_neg (by decide)]
      rw [h1]
      congr 2
      omega
    · rw [if_neg h1, if_neg (by simp [n1, n2])]
      simp only [List.length_cons, List.length_nil, List.getD_cons_zero, List.getD_cons_succ]
      simp only [if_true, true_and, TL.numL_val]
      rw [if_neg (by
        rintro ((z | z) | ⟨z, _⟩)
        · omega
        · exact z hg
        · omega), if_pos e2]
      congr 2
      omega
  · have e0 : ratL p q = TL.numL p.natAbs ++ if q = 1 then [] else 47 :: TL.numL q := by unfold ratL; rw [if_neg hs]
    have e1 : amT (ratL p q) = ratL p q := by rw [e0]; exact am_num _
    have hpp : ((p.natAbs : Nat) : Int) = p := by omega
    rw [e1, key _ e0]
    by_cases h1 : q = 1
    · rw [if_pos h1, if_neg (by simp [n1])]
      simp only [List.length_singleton, List.getD_cons_zero]
      rw [if_neg (by
        rintro (⟨z, _⟩ | ⟨_, z⟩)
        · cases z
        · exact z rfl), if_neg (fun z => z rfl), TL.numL_val, if_neg (by decide), h1, hpp]
    · rw [if_neg h1, if_neg (by simp [n1, n2])]
      simp only [List.length_cons, List.length_nil, List.getD_cons_zero, List.getD_cons_succ]
      simp only [if_true, true_and, TL.numL_val]
      rw [if_neg (by
        rintro ((z | z) | ⟨_, z⟩)
        · omega
        · exact z hg
        · exact z rfl), if_neg (fun z => z rfl), hpp]
theorem str_int (p : Int) : Str.ofString (toString p) = mkS (if p < 0 then 45 :: TL.numL p.natAbs else TL.numL p.natAbs) := tl_ext (by
  refine Eq.trans ?_ (tl_mk _).symm
  cases p with
  | ofNat n =>
    rw [if_neg (show ¬ (Int.ofNat n < 0) from fun z => absurd z (Int.not_lt.mpr (Int.natCast_nonneg n)))]
    exact TL.tl_num n
  | negSucc n =>
    rw [if_pos (Int.negSucc_lt_zero n)]
    have e : toString (Int.negSucc n) = "-" ++ toString ((n + 1 : Nat) : Int) := rfl
    rw [e]
    refine (TL.tl_ofString _).trans ?_
    rw [String.toList_append, List.map_append]
    exact congrArg (45 :: ·) ((TL.tl_ofString _).symm.trans (TL.tl_num (n + 1))))
end
section
noncomputable def P_is_number_text : FD := fnRun (sSq (sIf (tOr (tNot (tB (dCh .LtE .LtE (dC (.int 1)) (dCall fLen (aC (dV 0) aN) []) (dC (.int 12))))) (tAnd (tB (dCmp .Eq (dIx (dV 0) (dC (.int 0))) (dC (.str "0")))) (tB (dCmp .Gt (dCall fLen (aC (dV 0) aN) []) (dC (.int 1)))))) (sRt (dC (.bl false))) sNx)
    (sRt (dCall fAll (aC (dLc (iSeq (dV 0)) (gN 1) tY (dCmp .In (dV 1) (dC (.str "0123456789"))) [1]) aN) []))) 2
noncomputable def P_read_ratio (c_is_number_text : FD) : FD := fnRun (sSq (sAs (dV 0) (ofG (gN 1)))
    (sSq (sIf (tB (dCmp .Eq (dSl (dV 0) oN (oS (dC (.int 1)))) (dC (.str "-")))) (sAs (dSl (dV 0) (oS (dC (.int 1))) oN) (ofG (gN 1))) sNx)
    (sSq (sAs (dM chkS mSplit (dV 1) (aC (dC (.str "/")) aN)) (ofG (gN 2)))
    (sSq (sIf (tOr (tB (dCmp .Gt (dCall fLen (aC (dV 2) aN) []) (dC (.int 2)))) (tNot (tE (dCall fAll (aC (dLc (iSeq (dV 2)) (gN 5) tY (dCall c_is_number_text (aC (dV 5) aN) []) [5]) aN) [])))) (sRaiseA 10 [79] (aC (dV 0) aN)) sNx)
    (sSq (sAs (dCall fInt (aC (dIx (dV 2) (dC (.int 0))) aN) []) (ofG (gN 3)))
    (sSq (sAs (dC (.int 1)) (ofG (gN 4)))
    (sSq (sIf (tB (dCmp .Eq (dCall fLen (aC (dV 2) aN) []) (dC (.int 2)))) (sAs (dCall fInt (aC (dIx (dV 2) (dC (.int 1))) aN) []) (ofG (gN 4))) sNx)
    (sSq (sIf (tOr (tAnd (tB (dCmp .Eq (dCall fLen (aC (dV 2) aN) []) (dC (.int 2)))) (tOr (tB (dCmp .Lt (dV 4) (dC (.int 2)))) (tB (dCmp .NotEq (dCall fGcd (aC (dV 3) (aC (dV 4) aN)) []) (dC (.int 1)))))) (tAnd (tB (dCmp .Eq (dV 3) (dC (.int 0)))) (tB (dCmp .NotEq (dV 1) (dV 0))))) (sRaiseA 10 [79] (aC (dV 0) aN)) sNx)
    (sSq (sIf (tB (dCmp .NotEq (dV 1) (dV 0))) (sAs (dU .USub (dV 3)) (ofG (gN 3))) sNx)
    (sRt (dTup (aC (dV 3) (aC (dV 4) aN))))))))))))) 6
noncomputable def P_show_ratio_2 : FD := fnRun (sSq (sIf (tOr (tB (dCmp .GtE (dCall fAbs (aC (dIx (dV 0) (dC (.int 0))) aN) []) (dC (.int 10000000000000000000000000000000000000000000000000000000000000000000000000000000000000000000000000000000000000000000000000000000000000000000000000000000000000000000000000000000000000000000000000000000000000000000000000000000000000000000000000000000000000000000000000000000000000000000000000000000000000000000000000000000000000000000000000000000000000000000000000000000000000000000000000000000000000000000000000000000000000000000000000000000000000000000000000000000000000000000000000000000000000000000000000000000000000000000000000000000000000000000000000000000000000000000000000000000000000000000000000000000000000000000000000000000000000000000000000000000000000000000000000000000000000000000000000000000000000000000000000000000000000000000000000000000000000000000000000000000000000000000000000000000000000000000000000000000000000000000000000000000000000000000000000000000000000000000000000000000000000000000000000000000000000000000000000000000000000000000000000000000000000000000000000000000000000000)))) (tB (dCmp .GtE (dIx (dV 0) (dC (.int 1))) (dC (.int 10000000000000000000000000000000000000000000000000000000000000000000000000000000000000000000000000000000000000000000000000000000000000000000000000000000000000000000000000000000000000000000000000000000000000000000000000000000000000000000000000000000000000000000000000000000000000000000000000000000000000000000000000000000000000000000000000000000000000000000000000000000000000000000000000000000000000000000000000000000000000000000000000000000000000000000000000000000000000000000000000000000000000000000000000000000000000000000000000000000000000000000000000000000000000000000000000000000000000000000000000000000000000000000000000000000000000000000000000000000000000000000000000000000000000000000000000000000000000000000000000000000000000000000000000000000000000000000000000000000000000000000000000000000000000000000000000000000000000000000000000000000000000000000000000000000000000000000000000000000000000000000000000000000000000000000000000000000000000000000000000000000000000000000000000000000000000000))))) (sRaiseA 9 [48] (aC (dC (.str "digits")) aN)) sNx)
    (sSq (sIf (tB (dCmp .Eq (dIx (dV 0) (dC (.int 1))) (dC (.int 1)))) (sRt (dCall fStrL (aC (dIx (dV 0) (dC (.int 0))) aN) [])) sNx)
    (sRt (dB .Add (dB .Add (dCall fStrL (aC (dIx (dV 0) (dC (.int 0))) aN) []) (dC (.str "/"))) (dCall fStrL (aC (dIx (dV 0) (dC (.int 1))) aN) []))))) 1
theorem mkS_len (a : List Nat) : (mkS a).length = a.length := by
  show a.toArray.size = _
  simp
theorem mkS_iff {a b : List Nat} : (mkS a = mkS b) ↔ a = b := ⟨mkS_inj, congrArg mkS⟩
theorem mkS_cat (a b : List Nat) : mkS a ++ mkS b = mkS (a ++ b) := SX.S_cat a b
abbrev DG : Str := "0123456789"
theorem dig_in (c : Nat) : (!(Builtin.Str.occurrences DG ⟨#[c]⟩ 0 DG.length 1).isEmpty) = decide (48 ≤ c ∧ c ≤ 57) := by
  have e : DG = mkS [48, 49, 50, 51, 52, 53, 54, 55, 56, 57] := tl_ext (by decide +kernel)
  rw [e]
  refine (SX.in_one [48, 49, 50, 51, 52, 53, 54, 55, 56, 57] c).trans (decide_eq_decide.mpr ?_)
  simp only [List.mem_cons, List.not_mem_nil, or_false]
  omega
def PNumT (f : FD) : Prop := ∀ a : List Nat, a.length ≤ 1000000 → VP f [.str (mkS a)] (.bl (numT a))
theorem at_hd {c : Nat} {r : List Nat} : L2.atI (mkS (c :: r)).cps.toList 0 = some c := by
  show L2.atI ((c :: r).toArray).toList 0 = some c
  rw [List.toList_toArray]
  unfold L2.atI
  rw [show L2.ixN (c :: r).length (0 : Int) = some 0 from ixN_nat (k := 0) (by simp)]
  rfl
theorem len_cpS (a : Str) : a.length = a.cps.toList.length := by
  show a.cps.size = _
  simp
theorem numT_hd {c : Nat} {r : List Nat} (h : (c :: r).length ≤ 12) (h0 : c = 48 → ¬ 1 < (c :: r).length) : numT (c :: r) = (c :: r).all fun c => decide (48 ≤ c ∧ c ≤ 57) := by
  unfold numT
  rw [decide_eq_true (show 1 ≤ (c :: r).length ∧ (c :: r).length ≤ 12 ∧ ¬ ((c :: r).head? = some 48 ∧ 1 < (c :: r).length) from ⟨by simp, h, fun z => h0 (Option.some.inj z.1) z.2⟩), Bool.true_and]
theorem numT_ok : PNumT P_is_number_text := fun a ha => by
  have hszl : szl = 16777216 := rfl
  have hl := mkS_len a
  refine vp_run ?_
  walk_at "v0"
  walk_at "v"
  refine f_lenS (by omega) ?_
  walk_at "v"
  · rename_i h1 h2
    cases a with
    | nil => exact absurd h1 (by rw [hl]; decide)
    | cons c r =>
      have hlen : (c :: r).length ≤ 12 := by rw [hl] at h2; omega
      refine x_str (by omega) at_hd ?_
      walk_at "v"
      · rename_i h3
        have h3 : c = 48 := by
          have := congrArg (fun s : Str => s.cps.toList) h3
          have e0 : (Str.ofString "0").cps.toList = [48] := by decide +kernel
          rw [e0] at this
          simpa using this
        subst h3
        refine f_lenS (by omega) ?_
        walk_at "v"
        · rename_i h4
          have : numT (48 :: r) = false := by
            unfold numT
            rw [Bool.and_eq_false_iff]
            exact .inl (decide_eq_false fun z => z.2.2 ⟨rfl, by rw [hl] at h4; omega⟩)
          rw [this]
        · rename_i h4
          refine vE_Lc false (vi_seqS ?_)
          walk_at "v"
          refine ⟨_, rfl, ?_⟩
          refine lc_map (f := fun c => .bl (decide (48 ≤ c ∧ c ≤ 57))) (by rw [← len_cpS]; omega) (fun c hc => ⟨_, tg_n, ?_⟩) ?_
          · dsimp only [wipeY, List.set]
            walk_at "v"
            refine c_inS ?_
            rw [dig_in]
            exact ⟨rfl, rfl⟩
          · refine NL.fz ?_
            have e : (mkS (48 :: r)).cps.toList.map (fun c => Y.bl (decide (48 ≤ c ∧ c ≤ 57))) = ((48 :: r).map fun c => decide (48 ≤ c ∧ c ≤ 57)).map .bl := by rw [List.map_map]; rfl
            rw [e]
            walk_at "v"
            refine f_all (.lst _) ?_
            walk_at "v"
            rw [numT_hd hlen (by exact fun _ => by rw [hl] at h4; omega), List.all_map]
            rfl
      · rename_i h3
        have h3 : c ≠ 48 := fun z => h3 (by rw [z]; exact tl_ext (by decide +kernel))
        refine vE_Lc false (vi_seqS ?_)
        walk_at "v"
        refine ⟨_, rfl, ?_⟩
        refine lc_map (f := fun c => .bl (decide (48 ≤ c ∧ c ≤ 57))) (by rw [← len_cpS]; omega) (fun c hc => ⟨_, tg_n, ?_⟩) ?_
        · dsimp only [wipeY, List.set]
          walk_at "v"
          refine c_inS ?_
          rw [dig_in]
          exact ⟨rfl, rfl⟩
        · refine NL.fz ?_
          have e : (mkS (c :: r)).cps.toList.map (fun c => Y.bl (decide (48 ≤ c ∧ c ≤ 57))) = ((c :: r).map fun c => decide (48 ≤ c ∧ c ≤ 57)).map .bl := by rw [List.map_map]; rfl
          rw [e]
          walk_at "v"
          refine f_all (.lst _) ?_
          walk_at "v"
          rw [numT_hd hlen (by exact fun z => absurd z h3), List.all_map]
          rfl
  · rename_i h1 h2
    have : numT a = false := by
      unfold numT
      rw [Bool.and_eq_false_iff]
      exact .inl (decide_eq_false fun z => h2 (by rw [hl]; omega))
    rw [this]
  · rename_i h1
    have : numT a = false := by
      unfold numT
      rw [Bool.and_eq_false_iff]
      exact .inl (decide_eq_false fun z => h1 (by rw [hl]; omega))
    rw [this]
theorem rdN_1 {l a : List Nat} (h : spS (amT l) = [a]) (ha : numT a = true) : rdN l = if NumText.digitsVal a = 0 ∧ amT l ≠ l then none else some (if amT l ≠ l then -((NumText.digitsVal a : Nat) : Int) else (NumText.digitsVal a : Nat), 1) := by
  unfold rdN
  rw [h, if_neg (by simp [ha])]
  simp
theorem rdN_2 {l a b : List Nat} (h : spS (amT l) = [a, b]) (ha : numT a = true) (hb : numT b = true) : rdN l = if (NumText.digitsVal b < 2 ∨ Nat.gcd (NumText.digitsVal a) (NumText.digitsVal b) ≠ 1) ∨ (NumText.digitsVal a = 0 ∧ amT l ≠ l) then none else
    some (if amT l ≠ l then -((NumText.digitsVal a : Nat) : Int) else (NumText.digitsVal a : Nat), NumText.digitsVal b) := by
  unfold rdN
  rw [h, if_neg (by simp [ha, hb])]
  simp
theorem f_intT {a : List Nat} {o : OC} {Q : Y → OC → Prop} {X : XQ} (h : numT a = true) (q : Q (.int (NumText.digitsVal a : Nat)) o) : VF fInt [.str (mkS a)] o Q X := fun v ds hh r s => by
  unfold numT at h
  rw [Bool.and_eq_true, decide_eq_true_iff, List.all_eq_true] at h
  obtain ⟨⟨h1, h2, _⟩, h3⟩ := h
  have e : PySem.intText? (mkS a) = some ((NumText.digitsVal a : Nat) : Int) := SX.int_S (List.all_eq_true.mpr fun c hc => by
    have := of_decide_eq_true (h3 c hc)
    rw [Bool.and_eq_true]
    exact ⟨decide_eq_true this.1, decide_eq_true this.2⟩) (fun z => by rw [z] at h1; exact absurd h1 (by decide)) (by omega)
  cases r with
  | cons r1 r2 =>
    cases r2; cases r1
    show PR RY v o hh (match PySem.intText? (mkS a) with | some n => if (mkS a).length ≤ 640 then _ else _ | none => _) Q X
    rw [e]
    show PR RY v o hh (if (mkS a).length ≤ 640 then _ else _) Q X
    rw [if_pos (by rw [mkS_len]; omega)]
    exact PR.ok s (.int _) q
abbrev SLs : Str := "/"
abbrev MNs : Str := "-"
theorem sl_mk : SLs = mkS [47] := tl_ext (by decide +kernel)
theorem mn_mk : MNs = mkS [45] := tl_ext (by decide +kernel)
theorem split47 (l : List Nat) : (Txt.split (mkS l) SLs).map Y.str = (spS l).map fun a => .str (mkS a) := by
  rw [sl_mk, show Txt.split (mkS l) (mkS [47]) = (TL.spl [47] 0 [] l).map mkS from SX.split_S (by decide) (by decide), spl_eq, List.map_map]
  rfl
theorem cut1 (l : List Nat) : L2.cutS (mkS l) none (some 1) = mkS (l.take 1) := tl_ext ((cut_to (mkS l) 1).trans (by rw [tl_mk, tl_mk]))
theorem cutd (l : List Nat) : L2.cutS (mkS l) (some 1) none = mkS (l.drop 1) := tl_ext ((cut_from (mkS l) 1).trans (by rw [tl_mk, tl_mk]))
def PReadR (f : FD) : Prop := ∀ l : List Nat, l.length ≤ 100000 → VF f [.str (mkS l)] [] (fun y o => o = [] ∧ ∃ p q, rdN l = some (p, q) ∧ y = .tup [.int p, .int (q : Nat)]) (fun x o => o = [] ∧ rdN l = none ∧ x = ⟨10, [(79, .str (mkS l))]⟩)
theorem lc_parts {c : FD} (hc : PNumT c) {xs : List (List Nat)} {ys : List Y} {t u : Option Y} {Q : Y → OC → Prop} {X : XQ} (hy : ys = xs.map fun a => Y.str (mkS a)) (hb : ∀ a ∈ xs, a.length ≤ 1000000) (hx : xs.length ≤ szl) (q : Q (.lst ((xs.map numT).map .bl)) []) :
    VE (dLc (iSeq (dV 2)) (gN 5) tY (dCall c (aC (dV 5) aN) []) [5]) [t, u, some (.lst ys), none, none, none] [] Q X := by
  subst hy
  refine vE_Lc false (vi_seq ?_)
  walk_at "v"
  refine ⟨_, _, .lst _, ?_⟩
  refine lc_map (f := fun a => .bl (numT a)) hx (fun a ha => ⟨_, tg_n, ?_⟩) ?_
  · dsimp only [wipeY, List.set]
    walk_at "v"
    refine vc_p (hc a (hb a ha)) ?_
    exact ⟨rfl, rfl⟩
  · refine NL.fz ?_
    have e : xs.map (fun a => Y.bl (numT a)) = (xs.map numT).map .bl := by rw [List.map_map]; rfl
    rw [e]
    exact q
theorem readr_ok {c : FD} (hc : PNumT c) : PReadR (P_read_ratio c) := fun l hl => by
  have hszl : szl = 16777216 := rfl
  have hlen := mkS_len l
  have hal : (amT l).length ≤ l.length := by
    unfold amT
    split
    · rw [List.length_drop]; omega
    · exact Nat.le_refl _
  refine vf_run ?_
  walk_at "v0"
  walk_at "w"
  refine vs_cut (fun E o => E = [some (.str (mkS l)), some (.str (mkS (amT l))), none, none, none, none] ∧ o = []) ?_ (fun E o ⟨eE, eo⟩ => ?_)
  · walk_at "v"
    refine sl_s (by omega) ?_
    rw [cut1]
    walk_at "v"
    · rename_i h
      refine sl_s (by omega) ?_
      rw [cutd]
      walk_at "v"
      have h : l.take 1 = [45] := mkS_inj (h.trans mn_mk)
      exact ⟨by unfold amT; rw [if_pos h], rfl⟩
    · rename_i h
      have h : ¬ l.take 1 = [45] := fun z => h ((congrArg mkS z).trans mn_mk.symm)
      exact ⟨by unfold amT; rw [if_neg h], rfl⟩
  subst eE; subst eo
  walk_at "v"
  refine ⟨chk_S, ?_⟩
  walk_at "v"
  refine v_split false (by decide +kernel) (by rw [mkS_len]; omega) ?_
  rw [split47]
  have hb1 : ∀ a ∈ spS (amT l), a.length ≤ 1000000 := fun a ha => by
    have := spS_sum _ a ha
    omega
  rcases hsp : spS (amT l) with _ | ⟨a, _ | ⟨b, _ | ⟨d, r⟩⟩⟩ <;> rw [hsp] at hb1
  · exact absurd hsp (spS_ne _)
  · simp only [List.map_cons, List.map_nil]
    walk_at "v"
    refine lc_parts hc (xs := [a]) rfl hb1 (by simp [hszl]) ?_
    walk_at "v"
    refine f_all (.lst _) ?_
    rw [List.all_map]
    cases ha : numT a with
    | false =>
      have hn : rdN l = none := rdN_bad (.inr (by rw [hsp]; simp [ha]))
      rw [show [a].all (id ∘ numT) = false by simp [ha]]
      walk_at "v"
      exact ⟨rfl, retx (.refl _) ⟨rfl, hn, rfl⟩⟩
    | true =>
      have hn := rdN_1 hsp ha
      rw [show [a].all (id ∘ numT) = true by simp [ha]]
      walk_at "v"
      refine f_intT ha ?_
      walk_at "v"
      all_goals simp only [mkS_iff, Int.natAbs_natCast] at *
      all_goals first
        | exact ⟨rfl, retx (.refl _) ⟨rfl, by rw [hn]; exact if_pos ⟨by omega, by assumption⟩, rfl⟩⟩
        | exact ret_v (.refl _) ⟨rfl, _, _, by rw [hn, if_neg (fun z => by first | omega | exact z.2 (by assumption)), if_pos (by assumption)], rfl⟩
        | exact ret_v (.refl _) ⟨rfl, _, _, by rw [hn, if_neg (fun z => by first | omega | exact z.2 (by assumption)), if_neg (fun z => z (by assumption))], rfl⟩
  · simp only [List.map_cons, List.map_nil]
    walk_at "v"
    refine lc_parts hc (xs := [a, b]) rfl hb1 (by simp [hszl]) ?_
    walk_at "v"
    refine f_all (.lst _) ?_
    rw [List.all_map]
    by_cases hab : numT a = true ∧ numT b = true
    · obtain ⟨ha, hb⟩ := hab
      have hn := rdN_2 hsp ha hb
      rw [show [a, b].all (id ∘ numT) = true by simp [ha, hb]]
      walk_at "v"
      refine f_intT ha ?_
      walk_at "v"
      refine f_intT hb ?_
      walk_at "v"
      all_goals simp only [mkS_iff, Int.natAbs_natCast] at *
      all_goals first
        | exact ⟨rfl, retx (.refl _) ⟨rfl, by rw [hn]; exact if_pos (by first | exact .inl (.inl (by omega)) | exact .inl (.inr (by omega)) | exact .inr ⟨by omega, by assumption⟩), rfl⟩⟩
        | exact ret_v (.refl _) ⟨rfl, _, _, by rw [hn, if_neg (by rintro ((z | z) | ⟨z, w⟩) <;> first | omega | exact w (by assumption)), if_pos (by assumption)], rfl⟩
        | exact ret_v (.refl _) ⟨rfl, _, _, by rw [hn, if_neg (by rintro ((z | z) | ⟨z, w⟩) <;> first | omega | exact w (by assumption)), if_neg (fun z => z (by assumption))], rfl⟩
    · have hf : [a, b].all (id ∘ numT) = false := by
        rw [Bool.eq_false_iff]
        intro z
        exact hab (by simpa using z)
      have hn : rdN l = none := rdN_bad (.inr (by rw [hsp]; exact hf))
      rw [hf]
      walk_at "v"
      exact ⟨rfl, retx (.refl _) ⟨rfl, hn, rfl⟩⟩
  · have hn : rdN l = none := rdN_bad (.inl (by rw [hsp]; simp))
    walk_at "v"
    · exact ⟨rfl, retx (.refl _) ⟨rfl, hn, rfl⟩⟩
    · rename_i h
      exact absurd (by simp; omega) h
def PShow (f : FD) : Prop := ∀ (p : Int) (q : Nat), p.natAbs < 10 ^ 1000 → 0 < q → q < 10 ^ 1000 → VP f [.tup [.int p, .int (q : Nat)]] (.str (mkS (ratL p q)))
def PShowB (f : FD) : Prop := ∀ (p q : Int), ((10 : Int) ^ 1000 ≤ p.natAbs ∨ (10 : Int) ^ 1000 ≤ q) → VF f [.tup [.int p, .int q]] [] (fun _ _ => False) (fun x o => o = [] ∧ x = ⟨9, [(48, .str "digits")]⟩)
theorem absN (a : Int) : (if a < 0 then -a else a) = ((a.natAbs : Nat) : Int) := by
  split <;> omega
set_option exponentiation.threshold 5000 in
theorem show_ok : PShow P_show_ratio_2 := fun p q hp h0 hq => by
  have hszl : szl = 16777216 := rfl
  have c1 : p.natAbs < 10 ^ 4300 := Nat.lt_of_lt_of_le hp (Nat.pow_le_pow_right (by decide) (by decide))
  have c2 : ((q : Nat) : Int).natAbs < 10 ^ 4300 := Nat.lt_of_lt_of_le (by rw [Int.natAbs_natCast]; exact hq) (Nat.pow_le_pow_right (by decide) (by decide))
  have l1 := TL.numL_len (k := 1000) (by decide) hp
  have l2 := TL.numL_len (k := 1000) (by decide) hq
  have e1 := str_int p
  have e2 := str_int (q : Nat)
  rw [if_neg (Int.not_lt.mpr (Int.natCast_nonneg q)), Int.natAbs_natCast] at e2
  have l3 : (if p < 0 then 45 :: TL.numL p.natAbs else TL.numL p.natAbs).length ≤ 1001 := by
    split
    · rw [List.length_cons]; omega
    · omega
  refine vp_run ?_
  walk_at "v0"
  walk_at "v"
  · rename_i h
    refine absurd h (Int.not_le.mpr ?_)
    rw [absN]
    exact Int.ofNat_lt.mpr hp
  · rename_i h
    refine absurd h (Int.not_le.mpr ?_)
    exact Int.ofNat_lt.mpr hq
  · rename_i h1 h2 h3
    have h3 : q = 1 := by omega
    rw [e1]
    unfold ratL
    rw [if_pos h3, List.append_nil]
  · rename_i h1 h2 h3
    have h3 : ¬ q = 1 := by omega
    rw [e1, show Str.ofString "/" = mkS [47] from sl_mk]
    refine b_addS (by rw [mkS_len, mkS_len, hszl]; simp only [List.length_singleton]; omega) ?_
    rw [mkS_cat]
    walk_at "v"
    rw [e2]
    refine b_addS (by rw [mkS_len, mkS_len, hszl, List.length_append]; simp only [List.length_singleton]; omega) ?_
    rw [mkS_cat, List.append_assoc]
    walk_at "v"
    unfold ratL
    rw [if_neg h3]
    rfl
set_option exponentiation.threshold 5000 in
theorem showb_ok : PShowB P_show_ratio_2 := fun p q h => by
  refine vf_run ?_
  walk_at "v0"
  walk_at "v"
  · exact ⟨rfl, retx (.refl _) ⟨rfl, rfl⟩⟩
  · exact ⟨rfl, retx (.refl _) ⟨rfl, rfl⟩⟩
  · rename_i h1 h2 h3
    exfalso
    rw [absN] at h1
    exact h.elim h1 h2
  · rename_i h1 h2 h3
    exfalso
    rw [absN] at h1
    exact h.elim h1 h2
end
section
theorem cDiv_gcd {p q : Int} {k : Nat} (h0 : q ≠ 0) (h1 : q.natAbs < 2 ^ k) (h2 : k < 9000) : cDiv ((Nat.gcd p.natAbs q.natAbs : Nat) : Int) ∧ cDiv (-((Nat.gcd p.natAbs q.natAbs : Nat) : Int)) := by
  have g0 : Nat.gcd p.natAbs q.natAbs ≠ 0 := fun z => h0 (Int.natAbs_eq_zero.mp (Nat.gcd_eq_zero_iff.mp z).2)
  have gl : Nat.gcd p.natAbs q.natAbs ≤ q.natAbs := Nat.gcd_le_right _ (by omega)
  refine ⟨cDiv_of (k := k) ?_ h2 (by omega), cDiv_of (k := k) ?_ h2 (by omega)⟩
  · rw [Int.natAbs_natCast]; omega
  · rw [Int.natAbs_neg, Int.natAbs_natCast]; omega
def Add (f : FD) : Prop := ∀ {a b : Rat} {k l : Nat}, Bd k a → Bd l b → k + l < 8999 → VP f [yR a, yR b] (yR (a + b))
def Sub (f : FD) : Prop := ∀ {a b : Rat} {k l : Nat}, Bd k a → Bd l b → k + l < 8999 → VP f [yR a, yR b] (yR (a - b))
section
variable {f : FD} {o : OC} {Q : Y → OC → Prop} {X : XQ} {a b : Rat} {k l : Nat}
end
end
local macro_rules | `(tactic| walk_at "bd") => `(tactic| first
  | assumption
  | exact Bd.zero
  | exact Bd.one
  | ((with_reducible refine' Bd.add ?ha ?hb); (case ha => walk_at "bd"); (case hb => walk_at "bd"))
  | ((with_reducible refine' Bd.sub ?ha ?hb); (case ha => walk_at "bd"); (case hb => walk_at "bd"))
  | ((with_reducible refine' Bd.mul ?ha ?hb); (case ha => walk_at "bd"); (case hb => walk_at "bd"))
  | ((with_reducible refine' Bd.neg ?ha); (case ha => walk_at "bd"))
  | ((with_reducible refine' Bd.div ?ha ?hb); (case ha => walk_at "bd"); (case hb => walk_at "bd")))
local macro_rules | `(tactic| walk_at "f1") => `(tactic| first
  | ((with_reducible refine' add_call (by assumption) ?h1 ?h2 ?h3 ?_); (case h1 => walk_at "bd"); (case h2 => walk_at "bd"); (case h3 => omega))
  | ((with_reducible refine' mul_call (by assumption) ?h1 ?h2 ?h3 ?_); (case h1 => walk_at "bd"); (case h2 => walk_at "bd"); (case h3 => omega))
  | ((with_reducible refine' sub_call (by assumption) ?h1 ?h2 ?h3 ?_); (case h1 => walk_at "bd"); (case h2 => walk_at "bd"); (case h3 => omega))
  | ((with_reducible refine' cmp_call (by assumption) ?h1 ?h2 ?h3 ?_); (case h1 => walk_at "bd"); (case h2 => walk_at "bd"); (case h3 => omega))
  | ((with_reducible refine' sign_call (by assumption) ?h1 ?h3 ?_); (case h1 => walk_at "bd"); (case h3 => omega))
  | ((with_reducible refine' floor_call (by assumption) ?h1 ?h3 ?_); (case h1 => walk_at "bd"); (case h3 => omega))
  | (with_reducible refine neg_call (by assumption) ?_))
section
noncomputable def P__law_deck : FD := fnRun (sRt (dLst (aC (dCall fList (aC (dV 0) aN) []) (aC (dC (.int 0)) (aC (dC (.int 0)) (aC (dC (.int 7)) aN)))))) 1
noncomputable def P__law_draw : FD := fnRun (sSq (sIf (tB (dCmp .GtE (dIx (dV 0) (dC (.int 2))) (dV 1))) (sSq (sAs (dB .Mod (dCall fInt (aC (dIx (dV 0) (dC (.int 2))) aN) []) (dV 1)) (ofG (gN 2)))
    (sSq (sAs (dB .FloorDiv (dIx (dV 0) (dC (.int 2))) (dV 1)) (gIx (dV 0) (dC (.int 2))))
    (sRt (dV 2)))) sNx)
    (sSq (sAs (dC (.int 0)) (ofG (gN 3)))
    (sSq (sIf (tB (dCmp .Lt (dIx (dV 0) (dC (.int 1))) (dCall fLen (aC (dIx (dV 0) (dC (.int 0))) aN) []))) (sAs (dIx (dIx (dV 0) (dC (.int 0))) (dIx (dV 0) (dC (.int 1)))) (ofG (gN 3))) sNx)
    (sSq (sAs (dB .Add (dIx (dV 0) (dC (.int 1))) (dC (.int 1))) (gIx (dV 0) (dC (.int 1))))
    (sSq (sAs (dC (.int 0)) (gIx (dV 0) (dC (.int 2))))
    (sSq (sIf (tB (dCmp .GtE (dV 3) (dB .Pow (dC (.int 10)) (dC (.int 18))))) (sSq (sAs (dB .FloorDiv (dV 3) (dV 1)) (gIx (dV 0) (dC (.int 2))))
    (sRt (dB .Mod (dCall fInt (aC (dV 3) aN) []) (dV 1)))) sNx)
    (sSq (sAs (dB .Mod (dCall fInt (aC (dB .Add (dB .Add (dB .Mult (dIx (dV 0) (dC (.int 3))) (dC (.int 48271))) (dB .Mult (dV 3) (dC (.int 69621)))) (dB .Mult (dIx (dV 0) (dC (.int 1))) (dC (.int 911)))) aN) []) (dC (.int 2147483647))) (gIx (dV 0) (dC (.int 3))))
    (sSq (sAs (dB .Mod (dCall fInt (aC (dB .Add (dB .Mult (dIx (dV 0) (dC (.int 3))) (dC (.int 48271))) (dC (.int 12345))) aN) []) (dC (.int 2147483647))) (gIx (dV 0) (dC (.int 3))))
    (sRt (dB .Mod (dCall fInt (aC (dB .FloorDiv (dIx (dV 0) (dC (.int 3))) (dC (.int 64))) aN) []) (dV 1))))))))))) 4
noncomputable def P__law_same (c__law_same : FD) : FD := fnRun (sSq (sIf (tE (dIs .tuple (dV 1))) (sSq (sIf (tOr (tNot (tE (dIs .tuple (dV 0)))) (tB (dCmp .NotEq (dCall fLen (aC (dV 0) aN) []) (dCall fLen (aC (dV 1) aN) [])))) (sRt (dC (.bl false))) sNx)
    (sSq (sFor (iRange1 (dCall fLen (aC (dV 1) aN) [])) (gN 2) (sIf (tNot (tE (dCall c__law_same (aC (dIx (dV 0) (dV 2)) (aC (dIx (dV 1) (dV 2)) aN)) []))) (sRt (dC (.bl false))) sNx))
    (sRt (dC (.bl true))))) sNx)
    (sSq (sIf (tOr (tE (dIs .bool (dV 1))) (tE (dIs .bool (dV 0)))) (sRt (dAndT (dIs .bool (dV 1)) (dAndT (dIs .bool (dV 0)) (dCmp .Eq (dV 1) (dV 0))))) sNx)
    (sSq (sIf (tE (dIs .int (dV 1))) (sRt (dAndT (dIs .int (dV 0)) (dCmp .Eq (dV 0) (dV 1)))) sNx)
    (sSq (sIf (tE (dIs .str (dV 1))) (sRt (dAndT (dIs .str (dV 0)) (dCmp .Eq (dV 0) (dV 1)))) sNx)
    (sRt (dAndT (dCmp .Is (dV 1) (dC .non)) (dCmp .Is (dV 0) (dC .non)))))))) 3
noncomputable def P__law_gcd : FD := fnRun (sSq (sFor (iRange1 (dC (.int 5000))) (gN 2) (sSq (sIf (tB (dCmp .Eq (dV 1) (dC (.int 0)))) (sRt (dV 0)) sNx)
    (sSq (sAs (dB .Mod (dCall fInt (aC (dV 0) aN) []) (dV 1)) (ofG (gN 3)))
    (sSq (sAs (dV 1) (ofG (gN 0)))
    (sAs (dV 3) (ofG (gN 1)))))))
    (sRt (dV 0))) 4
noncomputable def P__law_ratio (c__law_gcd : FD) : FD := fnRun (sSq (sAs (dCall c__law_gcd (aC (dCall fAbs (aC (dV 0) aN) []) (aC (dCall fAbs (aC (dV 1) aN) []) aN)) []) (ofG (gN 2)))
    (sSq (sIf (tB (dCmp .Lt (dV 1) (dC (.int 0)))) (sAs (dU .USub (dV 2)) (ofG (gN 2))) sNx)
    (sRt (dTup (aC (dB .FloorDiv (dV 0) (dV 2)) (aC (dB .FloorDiv (dV 1) (dV 2)) aN)))))) 3
def dkC (ns : List Int) (i acc seed : Int) : C := .lst [.lst (ns.map .int), .int i, .int acc, .int seed]
def DK (ns : List Int) (m : Nat) (c : C) : Prop := ∃ i acc seed : Int, c = dkC ns i acc seed ∧ 0 ≤ i ∧ i ≤ m ∧ 0 ≤ acc ∧ 0 ≤ seed ∧ seed < 2147483647 ∧ ∀ z ∈ ns, z.natAbs < 2 ^ 1048577
theorem DK.mono {ns : List Int} {m m' : Nat} {c : C} (h : DK ns m c) (hm : m ≤ m') : DK ns m' c := by
  obtain ⟨i, a, s, h1, h2, h3, h4⟩ := h
  exact ⟨i, a, s, h1, h2, by omega, h4⟩
def Deck (f : FD) : Prop := ∀ ns : List Int, (∀ z ∈ ns, z.natAbs < 2 ^ 1048577) → VF f [.frz (ns.map .int)] [] (fun y o => ∃ n c, y = .own n ∧ o = [(n, c)] ∧ DK ns 0 c) noq
theorem deck_ok : Deck P__law_deck := fun ns hb => by
  refine vf_run ?_
  walk_at "v0"
  refine vs_rt (vE_Lst true ?_)
  walk_at "v"
  exact ret_v (List.Sublist.refl _) ⟨_, _, rfl, rfl, 0, 0, 7, rfl, by decide, by decide, by decide, by decide, by decide, hb⟩
def Draw (f : FD) : Prop := ∀ (n : Nat) (c : C) (ns : List Int) (m : Nat) (most : Int), DK ns m c → m < 2 ^ 60 → 0 < most → most < 2 ^ 8000 → VF f [.own n, .int most] [(n, c)] (fun y o => ∃ r c', y = .int r ∧ 0 ≤ r ∧ r < most ∧ o = [(n, c')] ∧ DK ns (m + 1) c') noq
theorem fdiv_nn {a b : Int} (ha : 0 ≤ a) (hb : 0 < b) : 0 ≤ a.fdiv b := by
  rw [Int.fdiv_eq_ediv_of_nonneg _ (by omega)]
  exact Int.ediv_nonneg ha (by omega)
theorem fmod_lt {a b : Int} (hb : 0 < b) : 0 ≤ a.fmod b ∧ a.fmod b < b := by
  rw [Int.fmod_eq_emod_of_nonneg _ (by omega)]
  exact ⟨Int.emod_nonneg _ (by omega), Int.emod_lt_of_pos _ hb⟩
theorem natAbs_lt_pow {a : Int} {k : Nat} (h0 : 0 ≤ a) (h : a < 2 ^ k) : a.natAbs < 2 ^ k := by
  have : ((a.natAbs : Nat) : Int) = a := by omega
  have h2 : ((a.natAbs : Nat) : Int) < ((2 ^ k : Nat) : Int) := by rw [this]; simpa using h
  exact Int.ofNat_lt.mp h2
theorem draw_ok : Draw P__law_draw := fun n c ns m most hd hm h0 h1 => by
  obtain ⟨i, acc, seed, rfl, hi, him, ha, hs, hs2, hb⟩ := hd
  have cd : cDiv most := cDiv_of (k := 8000) (natAbs_lt_pow (by omega) h1) (by omega) (by omega)
  have m1 : cMul seed 48271 := cMul_of (k := 31) (l := 16) (by omega) (by decide) (by omega)
  have m2 : cMul (i + 1) 911 := cMul_of (k := 61) (l := 10) (by omega) (by decide) (by omega)
  have m3 : ∀ z : Int, cMul (z.fmod 2147483647) 48271 := fun z => by
    have := fmod_lt (a := z) (b := 2147483647) (by decide)
    exact cMul_of (k := 31) (l := 16) (by omega) (by decide) (by omega)
  have key : ∀ z ∈ (0 : Int) :: ns, cMul z 69621 := fun z hz => by
    rcases List.mem_cons.mp hz with h | h
    · subst h; exact cMul_of (k := 1) (l := 17) (by decide) (by decide) (by omega)
    · exact cMul_of (k := 1048577) (l := 17) (hb z h) (by decide) (by omega)
  refine vf_run ?_
  unfold dkC
  walk_at "v0"
  walk_at "v"
  · exact ret_v (List.Sublist.refl _) ⟨_, _, rfl, (fmod_lt h0).1, (fmod_lt h0).2, rfl, _, _, _, rfl, hi, by omega, fdiv_nn ha h0, hs, hs2, hb⟩
  · rename_i hl
    rw [List.length_map] at hl
    refine x_lst (.lst _) (atI_mapI Y.int hi hl) ?_
    have kz := key _ (.tail _ (List.getElem_mem (l := ns) (n := i.toNat) (by omega)))
    walk_at "v"
    · rename_i hz
      have h10 : (0 : Int) ≤ 10 ^ Int.toNat 18 := by decide
      exact ret_v (List.Sublist.refl _) ⟨_, _, rfl, (fmod_lt h0).1, (fmod_lt h0).2, rfl, _, _, _, rfl, by omega, by omega, fdiv_nn (Int.le_trans h10 hz) h0, hs, hs2, hb⟩
    · refine b_mul (m3 _) ?_
      walk_at "v"
      exact ret_v (List.Sublist.refl _) ⟨_, _, rfl, (fmod_lt h0).1, (fmod_lt h0).2, rfl, _, _, _, rfl, by omega, by omega, by decide, (fmod_lt (by decide)).1, (fmod_lt (by decide)).2, hb⟩
  · have kz := key 0 (.head _)
    walk_at "v"
    · refine b_mul (m3 _) ?_
      walk_at "v"
      exact ret_v (List.Sublist.refl _) ⟨_, _, rfl, (fmod_lt h0).1, (fmod_lt h0).2, rfl, _, _, _, rfl, by omega, by omega, by decide, (fmod_lt (by decide)).1, (fmod_lt (by decide)).2, hb⟩
theorem draw_call {d : FD} (hd : Draw d) {o : OC} {n : Nat} {c : C} {k : C → OC} {ns : List Int} {m : Nat} {most : Int} {Q : Y → OC → Prop} {X : XQ} (a : At o n c k) (hk : DK ns m c) (hm : m < 2 ^ 60) (h0 : 0 < most) (h1 : most < 2 ^ 8000)
    (q : ∀ r c', 0 ≤ r → r < most → DK ns (m + 1) c' → Q (.int r) (k c')) : VF d [.own n, .int most] o Q X :=
  vc_own a (hd n c ns m most hk hm h0 h1) (fun y o1 ⟨r, c1, e1, r0, r1, e2, k1⟩ => ⟨c1, e2, by subst e1; exact q r c1 r0 r1 k1⟩) (fun _ _ z => z.elim)
def smY : Nat → Y → Bool
  | _, .non | _, .bl _ | _, .int _ | _, .str _ => true
  | k + 1, .tup ys => decide (ys.length < 1000000) && ys.all (smY k)
  | _, _ => false
def Same (k : Nat) (f : FD) : Prop := ∀ y, smY k y = true → VP f [y, y] (.bl true)
theorem isTy_sm {k : Nat} {y : Y} (h : smY k y = true) : plY y = true := by cases y <;> first | rfl | (cases k <;> simp [smY] at h)
theorem same_ok (k : Nat) {c : FD} (hc : ∀ j, k = j + 1 → Same j c) : Same k (P__law_same c) := fun y hy => by
  have pl := isTy_sm hy
  cases y with
  | non =>
    refine vp_run ?_
    walk_at "v0"
    walk_at "v"
    rfl
  | bl b =>
    refine vp_run ?_
    walk_at "v0"
    walk_at "v"
    simp
  | int i =>
    refine vp_run ?_
    walk_at "v0"
    walk_at "v"
    simp
  | str s =>
    refine vp_run ?_
    walk_at "v0"
    walk_at "v"
    simp
  | tup ys =>
    cases k with
    | zero => simp [smY] at hy
    | succ k =>
      simp only [smY, Bool.and_eq_true, decide_eq_true_eq] at hy
      refine vp_run ?_
      walk_at "v0"
      walk_at "v"
      refine vs_for (vi_range1 ?_)
      walk_at "v"
      refine ⟨_, rfl, ⟨by omega, by omega⟩, ?_⟩
      refine for_rng (fun t E o => o = [] ∧ ∃ x, E = [some (.tup ys), some (.tup ys), x]) ⟨rfl, _, rfl⟩ (fun t E o ht ⟨eo, x, eE⟩ => ?_) (fun E o ⟨eo, x, eE⟩ => ?_)
      · subst eo; subst eE
        have ht' : t < ys.length := by omega
        have e : L2.atI ys (0 + (t : Int)) = some ys[t] := by rw [Int.zero_add]; exact atI_nat (List.getElem?_eq_getElem ht')
        refine ⟨_, tg_n, ?_⟩
        walk_at "set"
        walk_at "v"
        refine x_tup e ?_
        walk_at "v"
        refine x_tup e ?_
        walk_at "v"
        refine vc_p (hc k rfl _ (List.all_eq_true.mp hy.2 _ (List.getElem_mem ht'))) ?_
        walk_at "v"
        exact ⟨rfl, _, rfl⟩
      · subst eo; subst eE
        walk_at "v"
  | lst ys => cases k <;> simp [smY] at hy
  | frz ys => cases k <;> simp [smY] at hy
  | ins c fs => cases k <;> simp [smY] at hy
  | own n => cases k <;> simp [smY] at hy
  | rg a b => cases k <;> simp [smY] at hy
theorem same_call {f : FD} {k : Nat} (h : Same k f) {y : Y} {o : OC} {Q : Y → OC → Prop} {X : XQ} (hs : smY k y = true) (q : Q (.bl true) o) : VF f [y, y] o Q X := vc_p (h y hs) q
def Gcd (f : FD) : Prop := ∀ (a b : Int) (k : Nat), 0 ≤ a → 0 ≤ b → a.natAbs < 2 ^ k → b.natAbs < 2 ^ k → 2 * k < 4990 → VP f [.int a, .int b] (.int ((Nat.gcd a.natAbs b.natAbs : Nat) : Int))
theorem gcd_step {a b : Int} (ha : 0 ≤ a) (hb : 0 < b) : Nat.gcd b.natAbs (a.fmod b).natAbs = Nat.gcd a.natAbs b.natAbs := by
  rw [Int.fmod_eq_emod_of_nonneg _ (by omega), Int.natAbs_emod_of_nonneg ha, Nat.gcd_comm, ← Nat.gcd_rec, Nat.gcd_comm]
theorem prod_step {a b : Int} {p : Nat} (hb : 0 < b) (hab : b ≤ a) (h : a.natAbs * b.natAbs < 2 ^ (p + 1)) : b.natAbs * (a.fmod b).natAbs < 2 ^ p := by
  obtain ⟨n, rfl⟩ : ∃ n : Nat, a = n := ⟨a.toNat, by omega⟩
  obtain ⟨m, rfl⟩ : ∃ m : Nat, b = m := ⟨b.toNat, by omega⟩
  rw [Int.fmod_eq_emod_of_nonneg _ (by omega), ← Int.natCast_emod]
  simp only [Int.natAbs_natCast] at h ⊢
  have h1 : n % m < m := Nat.mod_lt _ (by omega)
  have h2 : m + n % m ≤ n := by
    have h3 := Nat.mod_add_div n m
    have h4 : 1 ≤ n / m := (Nat.one_le_div_iff (by omega)).mpr (by omega)
    have h5 : m * 1 ≤ m * (n / m) := Nat.mul_le_mul_left _ h4
    omega
  have h6 : 2 * (n % m) ≤ n := by omega
  have h7 : m * (2 * (n % m)) ≤ m * n := Nat.mul_le_mul_left _ h6
  have h8 : m * (2 * (n % m)) = 2 * (m * (n % m)) := by rw [Nat.mul_left_comm]
  have h9 : m * n = n * m := Nat.mul_comm _ _
  rw [Nat.pow_succ] at h
  omega
theorem gcd_ok : Gcd P__law_gcd := fun a b k ha hb h1 h2 hk => by
  refine vp_run ?_
  walk_at "v0"
  walk_at "v"
  refine vs_for (vi_range1 ?_)
  walk_at "v"
  refine ⟨_, rfl, ⟨by omega, by omega⟩, ?_⟩
  refine for_rng (fun t E o => o = [] ∧ ∃ a' b' x y, E = [some (.int a'), some (.int b'), x, y] ∧ 0 ≤ a' ∧ 0 ≤ b' ∧ Nat.gcd a'.natAbs b'.natAbs = Nat.gcd a.natAbs b.natAbs ∧ (b' = 0 ∨ (t = 0 ∧ a' = a ∧ b' = b) ∨ (b' ≤ a' ∧ t ≤ 2 * k + 1 ∧ a'.natAbs * b'.natAbs < 2 ^ (2 * k + 2 - t)))) ⟨rfl, _, _, _, _, rfl, ha, hb, rfl, .inr (.inl ⟨rfl, rfl, rfl⟩)⟩ (fun t E o ht ⟨eo, a', b', x, y, eE, ha', hb', hg, hd⟩ => ?_) (fun E o ⟨eo, a', b', x, y, eE, ha', hb', hg, hd⟩ => ?_)
  · subst eo; subst eE
    refine ⟨_, tg_n, ?_⟩
    walk_at "set"
    walk_at "v"
    · rename_i hz
      subst hz
      congr 1
      rw [← hg, Int.natAbs_zero, Nat.gcd_zero_right]; omega
    · rename_i hz
      have hp : 0 < b' := by omega
      have hm := fmod_lt (a := a') hp
      refine ⟨rfl, _, _, _, _, rfl, hb', hm.1, (gcd_step ha' hp).trans hg, ?_⟩
      rcases hd with hd | ⟨e1, e2, e3⟩ | ⟨e1, e2, e3⟩
      · exact absurd hd hz
      · subst e1; subst e2; subst e3
        refine .inr (.inr ⟨by omega, by omega, ?_⟩)
        have h5 : (a'.fmod b').natAbs ≤ b'.natAbs := by omega
        have h6 : b'.natAbs * (a'.fmod b').natAbs ≤ b'.natAbs * b'.natAbs := Nat.mul_le_mul_left _ h5
        have h7 := pow_mul_lt h2 h2
        have h8 : (2 : Nat) ^ (k + k) ≤ 2 ^ (2 * k + 2 - (0 + 1)) := Nat.pow_le_pow_right (by decide) (by omega)
        omega
      · by_cases hr : a'.fmod b' = 0
        · exact .inl hr
        · refine .inr (.inr ⟨by omega, ?_, ?_⟩)
          · rcases Nat.lt_or_ge t (2 * k + 1) with h | h
            · omega
            · exfalso
              have h8 : 2 * k + 2 - t = 1 := by omega
              rw [h8] at e3
              have h9 := prod_step (p := 0) hp e1 e3
              have h10 : 1 ≤ b'.natAbs := by omega
              have h11 : 1 ≤ (a'.fmod b').natAbs := by omega
              have := Nat.mul_le_mul h10 h11
              omega
          · have h8 : 2 * k + 2 - t = 2 * k + 2 - (t + 1) + 1 := by omega
            rw [h8] at e3
            exact prod_step hp e1 e3
  · subst eo; subst eE
    walk_at "v"
    have hz : b' = 0 := by
      rcases hd with hd | ⟨e1, e2, e3⟩ | ⟨e1, e2, e3⟩
      · exact hd
      · exact absurd e1 (by decide)
      · exfalso
        have : Int.toNat 5000 = 5000 := rfl
        omega
    subst hz
    congr 1
    rw [← hg, Int.natAbs_zero, Nat.gcd_zero_right]; omega
def LRatio (f : FD) : Prop := ∀ (p q : Int) (k : Nat), q ≠ 0 → p.natAbs < 2 ^ k → q.natAbs < 2 ^ k → 2 * k < 4990 → VP f [.int p, .int q] (yR (Rat.divInt p q))
theorem abs_natAbs (a : Int) : (if a < 0 then -a else a) = ((a.natAbs : Nat) : Int) := by
  split <;> omega
theorem ratio_ok {c : FD} (hc : Gcd c) : LRatio (P__law_ratio c) := fun p q k h0 hp hq hk => by
  obtain ⟨d1, d2⟩ := cDiv_gcd (p := p) h0 hq (by omega)
  obtain ⟨e1, e2⟩ := divInt_parts (p := p) h0
  refine vp_run ?_
  walk_at "v0"
  walk_at "v"
  rw [abs_natAbs, abs_natAbs]
  refine vc_p (hc _ _ k (by omega) (by omega) (by rw [Int.natAbs_natCast]; exact hp) (by rw [Int.natAbs_natCast]; exact hq) hk) ?_
  rw [Int.natAbs_natCast, Int.natAbs_natCast]
  walk_at "v"
  · rename_i hn
    rw [if_pos hn] at e1 e2
    unfold yR
    rw [e1, e2]
  · rename_i hn
    rw [if_neg hn] at e1 e2
    unfold yR
    rw [e1, e2]
end
local macro_rules | `(tactic| walk_at "f1") => `(tactic| first
  | ((with_reducible refine' same_call (by assumption) ?hs ?_); (case hs => rfl)))
section
theorem law_of {f : FD} {ns : List Int} (p : VF f [.frz (ns.map .int)] [] (fun y _ => y = .bl true) noq) : ∃ h, f [.ref 0] [.frz (ns.map .int)] = .ok (.bl true) h := by
  have s : Sat (fun n => if n = 0 then some (.frz (ns.map .int)) else none) [] [O.frz (ns.map .int)] := ⟨fun n x e => by
      by_cases z : n = 0
      · subst z; simp only [if_pos] at e; cases e; rfl
      · simp only [if_neg z] at e; exact absurd e (by simp), fun p hp => (by cases hp), List.nodup_nil⟩
  have q := p _ [.ref 0] _ (.cons (.frz (n := 0) (if_pos rfl) (RYs.ints ns)) .nil) s
  cases z : f [.ref 0] [.frz (ns.map .int)] with
  | stuck => rw [z] at q; exact q.elim
  | exc x h => rw [z] at q; obtain ⟨_, _, _, _, _, _, w⟩ := q; exact w.elim
  | ok d h =>
    rw [z] at q
    obtain ⟨_, _, _, _, _, r, e⟩ := q
    subst e
    cases r
    exact ⟨h, rfl⟩
theorem bits_of {z : Int} (h : Builtin.Int.intBits z ≤ 1048576) : z.natAbs < 2 ^ 1048577 := by
  unfold Builtin.Int.intBits at h
  by_cases z0 : z.natAbs = 0
  · rw [z0]; exact Nat.two_pow_pos _
  · refine (Nat.log2_lt z0).mp ?_
    split at h
    · rename_i q; simp_all
    · omega
end
section
noncomputable def P__law_text_3 : FD := fnRun (sSq (sAs (dCall fStrL (aC (dIx (dV 0) (dC (.int 0))) aN) []) (ofG (gN 1)))
    (sSq (sIf (tB (dCmp .NotEq (dIx (dV 0) (dC (.int 1))) (dC (.int 1)))) (sAs (dB .Add (dB .Add (dV 1) (dC (.str "/"))) (dCall fStrL (aC (dIx (dV 0) (dC (.int 1))) aN) [])) (ofG (gN 1))) sNx)
    (sRt (dV 1)))) 2
noncomputable def P__law_refused_14 (t_sub : Nat → Nat → Option Bool) (t_isi : Nat → Nat → Option Bool) (t_xa : Nat → List Nat) (c_read_ratio : FD) : FD := fnRun (sSq (sTry t_sub (sEx (dCall c_read_ratio (aC (dV 0) aN) [])) ⟨0, (some 1), fun y => sRt (dAndT (isX t_isi y 10) (dAndT (dCmp .Eq (dXf t_xa y 79) (dV 0)) (isX t_isi y 100)))⟩)
    (sRt (dC (.bl false)))) 2
noncomputable def P__law_long (t_sub : Nat → Nat → Option Bool) (t_isi : Nat → Nat → Option Bool) (c_show_ratio : FD) : FD := fnRun (sSq (sTry t_sub (sEx (dCall c_show_ratio (aC (dTup (aC (dV 0) (aC (dV 1) aN))) aN) [])) ⟨0, (some 2), fun y => sRt (isX t_isi y 9)⟩)
    (sRt (dC (.bl false)))) 3
noncomputable def P__law_power : FD := fnRun (sSq (sAs (dC (.int 1)) (ofG (gN 1)))
    (sSq (sFor (iRange1 (dV 0)) (gN 2) (sAs (dB .Mult (dV 1) (dB .Pow (dC (.int 10)) (dC (.int 10)))) (ofG (gN 1))))
    (sRt (dV 1)))) 3
noncomputable def P_law_47 (c__law_deck : FD) (c__law_draw : FD) (c__law_long : FD) (c__law_power : FD) (c__law_ratio : FD) (c__law_refused : FD) (c__law_same : FD) (c__law_text : FD) (c_read_ratio : FD) (c_show_ratio : FD) : FD := fnRun (sSq (sAs (dCall c__law_deck (aC (dV 0) aN) []) (ofG (gN 1)))
    (sSq (sAs (dCall c__law_draw (aC (dV 1) (aC (dIx (dLst (aC (dC (.int 10)) (aC (dC (.int 100)) (aC (dB .Pow (dC (.int 10)) (dC (.int 12))) aN)))) (dCall c__law_draw (aC (dV 1) (aC (dC (.int 3)) aN)) [])) aN)) []) (ofG (gN 2)))
    (sSq (sAs (dB .Add (dC (.int 1)) (dCall c__law_draw (aC (dV 1) (aC (dIx (dLst (aC (dC (.int 1)) (aC (dC (.int 10)) (aC (dB .Sub (dB .Pow (dC (.int 10)) (dC (.int 12))) (dC (.int 1))) aN)))) (dCall c__law_draw (aC (dV 1) (aC (dC (.int 3)) aN)) [])) aN)) [])) (ofG (gN 3)))
    (sSq (sAs (dCall c__law_ratio (aC (dV 2) (aC (dV 3) aN)) []) (ofG (gN 4)))
    (sSq (sIf (tB (dCmp .Eq (dCall c__law_draw (aC (dV 1) (aC (dC (.int 2)) aN)) []) (dC (.int 0)))) (sAs (dTup (aC (dU .USub (dIx (dV 4) (dC (.int 0)))) (aC (dIx (dV 4) (dC (.int 1))) aN))) (ofG (gN 4))) sNx)
    (sSq (sAs (dCall c__law_text (aC (dV 4) aN) []) (ofG (gN 5)))
    (sSq (sIf (tOr (tNot (tE (dCall c__law_same (aC (dCall c_show_ratio (aC (dV 4) aN) []) (aC (dV 5) aN)) []))) (tNot (tE (dCall c__law_same (aC (dCall c_read_ratio (aC (dV 5) aN) []) (aC (dV 4) aN)) [])))) (sRt (dC (.bl false))) sNx)
    (sSq (sAs (dCall fStrL (aC (dCall fAbs (aC (dIx (dV 4) (dC (.int 0))) aN) []) aN) []) (ofG (gN 6)))
    (sSq (sAs (dLst (aC (dC (.str "")) (aC (dC (.str "-")) (aC (dB .Add (dC (.str "+")) (dV 5)) (aC (dB .Add (dC (.str " ")) (dV 5)) (aC (dB .Add (dV 5) (dC (.str " "))) (aC (dB .Add (dC (.str "--")) (dV 5)) (aC (dC (.str "-0")) (aC (dB .Add (dC (.str "0")) (dV 6)) (aC (dB .Add (dC (.str "-0")) (dV 6)) (aC (dB .Add (dV 6) (dC (.str "/"))) (aC (dB .Add (dC (.str "/")) (dV 6)) (aC (dB .Add (dV 6) (dC (.str "/0"))) (aC (dB .Add (dV 6) (dC (.str "/1"))) (aC (dC (.str "-0/3")) (aC (dC (.str "2/4")) (aC (dC (.str "0/2")) (aC (dB .Add (dV 6) (dC (.str "/2/3"))) (aC (dB .Add (dV 6) (dC (.str "/-2"))) (aC (dB .Add (dV 5) (dC (.str "a"))) (aC (dC (.str "1.5")) (aC (dB .Add (dV 6) (dC (.str "_0"))) (aC (dB .Add (dC (.str "1")) (dB .Mult (dC (.str "0")) (dC (.int 12)))) (aC (dB .Add (dC (.str "1/1")) (dB .Mult (dC (.str "0")) (dC (.int 12)))) (aC (dC (.str "x")) (aC (dB .Add (dV 5) (dC (.str "/7/1"))) (aC (dB .Add (dC (.str "\n")) (dV 5)) (aC (dB .Add (dV 5) (dC (.str "\n"))) (aC (dC (.str "- 1")) (aC (dC (.str "1 /2")) (aC (dB .Add (dB .Add (dC (.str "-")) (dV 6)) (dC (.str "/-3"))) aN))))))))))))))))))))))))))))))) (ofG (gN 7)))
    (sSq (sFor (iSeq (dV 7)) (gN 8) (sIf (tNot (tE (dCall c__law_refused (aC (dV 8) aN) []))) (sRt (dC (.bl false))) sNx))
    (sSq (sAs (dCall c__law_power (aC (dC (.int 100)) aN) []) (ofG (gN 9)))
    (sRt (dAndT (dCall c__law_long (aC (dV 9) (aC (dC (.int 1)) aN)) []) (dAndT (dCall c__law_long (aC (dU .USub (dV 9)) (aC (dC (.int 1)) aN)) []) (dAndT (dCall c__law_long (aC (dC (.int 1)) (aC (dV 9) aN)) []) (dCmp .Eq (dCall fLen (aC (dCall c_show_ratio (aC (dTup (aC (dB .Sub (dV 9) (dC (.int 1))) (aC (dC (.int 1)) aN))) aN) []) aN) []) (dC (.int 1000)))))))))))))))))) 10
theorem num_ltN {p q : Int} {N : Nat} (hq : q ≠ 0) (h1 : p.natAbs < N) : (Rat.divInt p q).num.natAbs < N := by
  rw [Rat.num_divInt]
  refine Nat.lt_of_le_of_lt (natAbs_div_le _ _) ?_
  rw [Int.natAbs_mul, Int.natAbs_sign_of_ne_zero hq, Nat.one_mul]; exact h1
theorem den_ltN {p q : Int} {N : Nat} (hq : q ≠ 0) (h2 : q.natAbs < N) : (Rat.divInt p q).den < N := by
  rw [Rat.den_divInt, if_neg hq]
  exact Nat.lt_of_le_of_lt (Nat.div_le_self _ _) h2
def LText (f : FD) : Prop := ∀ (p : Int) (q : Nat), p.natAbs < 10 ^ 1000 → 0 < q → q < 10 ^ 1000 → VP f [.tup [.int p, .int (q : Nat)]] (.str (mkS (ratL p q)))
theorem ltext_ok : LText P__law_text_3 := fun p q hp h0 hq => by
  have hszl : szl = 16777216 := rfl
  have c1 : p.natAbs < 10 ^ 4300 := Nat.lt_of_lt_of_le hp (Nat.pow_le_pow_right (by decide) (by decide))
  have c2 : ((q : Nat) : Int).natAbs < 10 ^ 4300 := Nat.lt_of_lt_of_le (by rw [Int.natAbs_natCast]; exact hq) (Nat.pow_le_pow_right (by decide) (by decide))
  have l1 := TL.numL_len (k := 1000) (by decide) hp
  have l2 := TL.numL_len (k := 1000) (by decide) hq
  have e1 := str_int p
  have e2 := str_int (q : Nat)
  rw [if_neg (Int.not_lt.mpr (Int.natCast_nonneg q)), Int.natAbs_natCast] at e2
  have l3 : (if p < 0 then 45 :: TL.numL p.natAbs else TL.numL p.natAbs).length ≤ 1001 := by
    split
    · rw [List.length_cons]; omega
    · omega
  refine vp_run ?_
  walk_at "v0"
  walk_at "v"
  · rename_i h3
    have h3 : q = 1 := by omega
    rw [e1]
    unfold ratL
    rw [if_pos h3, List.append_nil]
  · rename_i h3
    have h3 : ¬ q = 1 := by omega
    rw [e1, show Str.ofString "/" = mkS [47] from sl_mk]
    refine b_addS (by rw [mkS_len, mkS_len, hszl]; simp only [List.length_singleton]; omega) ?_
    rw [mkS_cat]
    walk_at "v"
    rw [e2]
    refine b_addS (by rw [mkS_len, mkS_len, hszl, List.length_append]; simp only [List.length_singleton]; omega) ?_
    rw [mkS_cat, List.append_assoc]
    walk_at "v"
    unfold ratL
    rw [if_neg h3]
    rfl
def LRef4 (ts ti : Nat → Nat → Option Bool) (xa : Nat → List Nat) (f : FD) : Prop := ts 10 0 = some true → ti 10 10 = some true → ti 10 100 = some true → (xa 10).elem 79 = true → ∀ l : List Nat, l.length ≤ 1000 → rdN l = none → VP f [.str (mkS l)] (.bl true)
theorem lref4_ok {ts ti : Nat → Nat → Option Bool} {xa : Nat → List Nat} {c : FD} (h1 : PReadR c) : LRef4 ts ti xa (P__law_refused_14 ts ti xa c) := fun s1 t1 t2 x1 l hl hn => by
  refine vp_run ?_
  walk_at "v0"
  refine vs_sq (vs_try1 ?_)
  walk_at "v"
  refine vc_fr (h1 l (by omega)) (fun y o ⟨_, p, q, e, _⟩ => absurd (hn.symm.trans e) (fun z => nomatch z)) (fun x o ⟨e1, _, e⟩ => ?_)
  subst e1; subst e
  refine tw_inF s1 rfl (ds := [(79, .str (mkS l))]) rfl ?_
  dsimp only
  walk_at "v"
  refine vE_isX t1 ?_
  walk_at "v"
  refine vE_Xf (fs := [(79, .str (mkS l))]) rfl x1 rfl ?_
  walk_at "v"
  refine vE_isX t2 ?_
  walk_at "v"
def LLong (ts ti : Nat → Nat → Option Bool) (f : FD) : Prop := ts 9 0 = some true → ti 9 9 = some true → ∀ (p q : Int), ((10 : Int) ^ 1000 ≤ p.natAbs ∨ (10 : Int) ^ 1000 ≤ q) → VP f [.int p, .int q] (.bl true)
theorem llong_ok {ts ti : Nat → Nat → Option Bool} {c : FD} (h1 : PShowB c) : LLong ts ti (P__law_long ts ti c) := fun s1 t1 p q h => by
  refine vp_run ?_
  walk_at "v0"
  refine vs_sq (vs_try1 ?_)
  walk_at "v"
  refine vc_fr (h1 p q h) (fun y o z => z.elim) (fun x o ⟨e1, e⟩ => ?_)
  subst e1; subst e
  refine tw_inF s1 rfl (ds := [(48, .str "digits")]) rfl ?_
  dsimp only
  walk_at "v"
  refine vE_isX t1 ?_
  walk_at "v"
def LPow (f : FD) : Prop := VP f [.int 100] (.int (10 ^ 1000))
theorem lpow_ok : LPow P__law_power := by
  refine vp_run ?_
  walk_at "v0"
  walk_at "v"
  refine vs_for (vi_range1 ?_)
  walk_at "v"
  refine ⟨_, rfl, ⟨by omega, by omega⟩, ?_⟩
  refine for_rng (fun t E o => o = [] ∧ ∃ w, E = [some (.int 100), some (.int (10 ^ (10 * t))), w]) ⟨rfl, _, rfl⟩ (fun t E o ht ⟨eo, w, eE⟩ => ?_) (fun E o ⟨eo, w, eE⟩ => ?_)
  · subst eo; subst eE
    have ht : t < 100 := ht
    have hm : cMul ((10 : Int) ^ (10 * t)) ((10 : Int) ^ Int.toNat 10) := cMul_of (k := 4000) (l := 40) (by
      have e : ((10 : Int) ^ (10 * t)).natAbs = 10 ^ (10 * t) := by rw [Int.natAbs_pow]; rfl
      rw [e]
      refine Nat.lt_of_le_of_lt (Nat.pow_le_pow_left (show 10 ≤ 2 ^ 4 by decide) _) ?_
      rw [← Nat.pow_mul]
      exact Nat.pow_lt_pow_right (by decide) (by omega)) (by decide) (by decide)
    refine ⟨_, tg_n, ?_⟩
    walk_at "set"
    walk_at "v"
    refine ⟨rfl, some (.int (0 + (t : Nat))), ?_⟩
    rw [show (10 : Int) ^ (10 * t) * 10 ^ Int.toNat 10 = 10 ^ (10 * (t + 1)) by rw [Nat.mul_succ, Int.pow_add]; rfl]
  · subst eo; subst eE
    walk_at "v"
    rfl
theorem b_addC {s s' : Str} {o : OC} {Q : Y → OC → Prop} {X : XQ} (h1 : s.length ≤ 100) (h2 : s'.length ≤ 100) (q : Q (.str (s ++ s')) o) : VO2 (bop .Add) (.str s) (.str s') o Q X := b_addS (by have : szl = 16777216 := rfl; omega) q
theorem pwI (k : Nat) : (10 : Int) ^ k = ((10 ^ k : Nat) : Int) := by rw [Int.natCast_pow]; rfl
theorem numL_ge : ∀ (k n : Nat), 10 ^ k ≤ n → k < (TL.numL n).length
  | 0, n, _ => by
    cases e : TL.numL n with
    | nil => exact absurd e (TL.numL_ne n)
    | cons a r => simp
  | k + 1, n, h => by
    rw [Nat.pow_succ] at h
    have h0 : 0 < 10 ^ k := Nat.pow_pos (by decide)
    rw [TL.numL_step (by omega), List.length_append]
    have := numL_ge k (n / 10) (by omega)
    simp only [List.length_singleton]
    omega
def Bad (y : Y) : Prop := ∃ x : Str, y = .str x ∧ x.length ≤ 1000 ∧ rdN (TL.tl x) = none
theorem bad {x : Str} {l : List Nat} (e : TL.tl x = l) (hl : l.length ≤ 1000) (h : rdN l = none) : Bad (.str x) := ⟨x, rfl, by rw [TL.len_tl, e]; exact hl, by rw [e]; exact h⟩
theorem tl2 {a b : Str} {k m : List Nat} (h1 : TL.tl a = k) (h2 : TL.tl b = m) : TL.tl (a ++ b) = k ++ m := by rw [TL.tl_append, h1, h2]
theorem drop_in {a b : List Nat} (h : 45 ∈ b) : 45 ∈ (a ++ 47 :: b).drop 1 := by
  cases a with
  | nil => exact h
  | cons c r => exact List.mem_append.mpr (.inr (List.mem_cons_of_mem _ h))
theorem bads {m : Nat} {t : List Nat} (hm : (TL.numL m).length ≤ 12) (ht : t.length ≤ 30) : ∀ y ∈ ([
    .str (Str.ofString ""),
    .str (Str.ofString "-"),
    .str (Str.ofString "+" ++ mkS t),
    .str (Str.ofString " " ++ mkS t),
    .str (mkS t ++ Str.ofString " "),
    .str (Str.ofString "--" ++ mkS t),
    .str (Str.ofString "-0"),
    .str (Str.ofString "0" ++ mkS (TL.numL m)),
    .str (Str.ofString "-0" ++ mkS (TL.numL m)),
    .str (mkS (TL.numL m) ++ Str.ofString "/"),
    .str (Str.ofString "/" ++ mkS (TL.numL m)),
    .str (mkS (TL.numL m) ++ Str.ofString "/0"),
    .str (mkS (TL.numL m) ++ Str.ofString "/1"),
    .str (Str.ofString "-0/3"),
    .str (Str.ofString "2/4"),
    .str (Str.ofString "0/2"),
    .str (mkS (TL.numL m) ++ Str.ofString "/2/3"),
    .str (mkS (TL.numL m) ++ Str.ofString "/-2"),
    .str (mkS t ++ Str.ofString "a"),
    .str (Str.ofString "1.5"),
    .str (mkS (TL.numL m) ++ Str.ofString "_0"),
    .str (Str.ofString "1" ++ repS "0" (Int.toNat 12)),
    .str (Str.ofString "1/1" ++ repS "0" (Int.toNat 12)),
    .str (Str.ofString "x"),
    .str (mkS t ++ Str.ofString "/7/1"),
    .str (Str.ofString "\n" ++ mkS t),
    .str (mkS t ++ Str.ofString "\n"),
    .str (Str.ofString "- 1"),
    .str (Str.ofString "1 /2"),
    .str ((Str.ofString "-" ++ mkS (TL.numL m)) ++ Str.ofString "/-3")] : List Y), Bad y := by
  simp only [List.forall_mem_cons, List.forall_mem_nil]
  refine ⟨bad (x := Str.ofString "") (l := []) (by decide +kernel) (by decide) (by decide +kernel),
    bad (x := Str.ofString "-") (l := [45]) (by decide +kernel) (by decide) (by decide +kernel),
    bad (x := Str.ofString "+" ++ mkS t) (l := [43] ++ t) (tl2 (by decide +kernel) (tl_mk _)) (by rw [List.length_append]; simp only [List.length_cons, List.length_nil]; omega) (rdN_c (c := 43) (by simp) (.inl (by decide))),
    bad (x := Str.ofString " " ++ mkS t) (l := [32] ++ t) (tl2 (by decide +kernel) (tl_mk _)) (by rw [List.length_append]; simp only [List.length_cons, List.length_nil]; omega) (rdN_c (c := 32) (by simp) (.inl (by decide))),
    bad (x := mkS t ++ Str.ofString " ") (l := t ++ [32]) (tl2 (tl_mk _) (by decide +kernel)) (by rw [List.length_append]; simp only [List.length_cons, List.length_nil]; omega) (rdN_c (c := 32) (by simp) (.inl (by decide))),
    bad (x := Str.ofString "--" ++ mkS t) (l := [45, 45] ++ t) (tl2 (by decide +kernel) (tl_mk _)) (by rw [List.length_append]; simp only [List.length_cons, List.length_nil]; omega) (rdN_m (by simp)),
    bad (x := Str.ofString "-0") (l := [45, 48]) (by decide +kernel) (by decide) (by decide +kernel),
    bad (x := Str.ofString "0" ++ mkS (TL.numL m)) (l := [48] ++ (TL.numL m)) (tl2 (by decide +kernel) (tl_mk _)) (by rw [List.length_append]; simp only [List.length_cons, List.length_nil]; omega) (rdN_lead),
    bad (x := Str.ofString "-0" ++ mkS (TL.numL m)) (l := [45, 48] ++ (TL.numL m)) (tl2 (by decide +kernel) (tl_mk _)) (by rw [List.length_append]; simp only [List.length_cons, List.length_nil]; omega) (rdN_mlead),
    bad (x := mkS (TL.numL m) ++ Str.ofString "/") (l := (TL.numL m) ++ [47]) (tl2 (tl_mk _) (by decide +kernel)) (by rw [List.length_append]; simp only [List.length_cons, List.length_nil]; omega) (rdN_two (r := []) (by decide) (.inl rfl)),
    bad (x := Str.ofString "/" ++ mkS (TL.numL m)) (l := [47] ++ (TL.numL m)) (tl2 (by decide +kernel) (tl_mk _)) (by rw [List.length_append]; simp only [List.length_cons, List.length_nil]; omega) (rdN_front),
    bad (x := mkS (TL.numL m) ++ Str.ofString "/0") (l := (TL.numL m) ++ [47, 48]) (tl2 (tl_mk _) (by decide +kernel)) (by rw [List.length_append]; simp only [List.length_cons, List.length_nil]; omega) (rdN_two (r := [48]) (by decide) (.inr (by decide))),
    bad (x := mkS (TL.numL m) ++ Str.ofString "/1") (l := (TL.numL m) ++ [47, 49]) (tl2 (tl_mk _) (by decide +kernel)) (by rw [List.length_append]; simp only [List.length_cons, List.length_nil]; omega) (rdN_two (r := [49]) (by decide) (.inr (by decide))),
    bad (x := Str.ofString "-0/3") (l := [45, 48, 47, 51]) (by decide +kernel) (by decide) (by decide +kernel),
    bad (x := Str.ofString "2/4") (l := [50, 47, 52]) (by decide +kernel) (by decide) (by decide +kernel),
    bad (x := Str.ofString "0/2") (l := [48, 47, 50]) (by decide +kernel) (by decide) (by decide +kernel),
    bad (x := mkS (TL.numL m) ++ Str.ofString "/2/3") (l := (TL.numL m) ++ [47, 50, 47, 51]) (tl2 (tl_mk _) (by decide +kernel)) (by rw [List.length_append]; simp only [List.length_cons, List.length_nil]; omega) (rdN_s (by rw [List.count_append]; exact Nat.le_add_left 2 _)),
    bad (x := mkS (TL.numL m) ++ Str.ofString "/-2") (l := (TL.numL m) ++ [47, 45, 50]) (tl2 (tl_mk _) (by decide +kernel)) (by rw [List.length_append]; simp only [List.length_cons, List.length_nil]; omega) (rdN_m (drop_in (a := TL.numL m) (b := [45, 50]) (by simp))),
    bad (x := mkS t ++ Str.ofString "a") (l := t ++ [97]) (tl2 (tl_mk _) (by decide +kernel)) (by rw [List.length_append]; simp only [List.length_cons, List.length_nil]; omega) (rdN_c (c := 97) (by simp) (.inr (.inr (by decide)))),
    bad (x := Str.ofString "1.5") (l := [49, 46, 53]) (by decide +kernel) (by decide) (by decide +kernel),
    bad (x := mkS (TL.numL m) ++ Str.ofString "_0") (l := (TL.numL m) ++ [95, 48]) (tl2 (tl_mk _) (by decide +kernel)) (by rw [List.length_append]; simp only [List.length_cons, List.length_nil]; omega) (rdN_c (c := 95) (by simp) (.inr (.inr (by decide)))),
    bad (x := Str.ofString "1" ++ repS "0" (Int.toNat 12)) (l := [49, 48, 48, 48, 48, 48, 48, 48, 48, 48, 48, 48, 48]) (by decide +kernel) (by decide) (by decide +kernel),
    bad (x := Str.ofString "1/1" ++ repS "0" (Int.toNat 12)) (l := [49, 47, 49, 48, 48, 48, 48, 48, 48, 48, 48, 48, 48, 48, 48]) (by decide +kernel) (by decide) (by decide +kernel),
    bad (x := Str.ofString "x") (l := [120]) (by decide +kernel) (by decide) (by decide +kernel),
    bad (x := mkS t ++ Str.ofString "/7/1") (l := t ++ [47, 55, 47, 49]) (tl2 (tl_mk _) (by decide +kernel)) (by rw [List.length_append]; simp only [List.length_cons, List.length_nil]; omega) (rdN_s (by rw [List.count_append]; exact Nat.le_add_left 2 _)),
    bad (x := Str.ofString "\n" ++ mkS t) (l := [10] ++ t) (tl2 (by decide +kernel) (tl_mk _)) (by rw [List.length_append]; simp only [List.length_cons, List.length_nil]; omega) (rdN_c (c := 10) (by simp) (.inl (by decide))),
    bad (x := mkS t ++ Str.ofString "\n") (l := t ++ [10]) (tl2 (tl_mk _) (by decide +kernel)) (by rw [List.length_append]; simp only [List.length_cons, List.length_nil]; omega) (rdN_c (c := 10) (by simp) (.inl (by decide))),
    bad (x := Str.ofString "- 1") (l := [45, 32, 49]) (by decide +kernel) (by decide) (by decide +kernel),
    bad (x := Str.ofString "1 /2") (l := [49, 32, 47, 50]) (by decide +kernel) (by decide) (by decide +kernel),
    bad (x := (Str.ofString "-" ++ mkS (TL.numL m)) ++ Str.ofString "/-3") (l := ([45] ++ TL.numL m) ++ [47, 45, 51]) (tl2 (tl2 (by decide +kernel) (tl_mk _)) (by decide +kernel)) (by rw [List.length_append, List.length_append]; simp only [List.length_cons, List.length_nil]; omega) (rdN_m (by simp)), ?_⟩
  exact fun _ h => absurd h (by simp)
theorem law04_ok {c__law_deck c__law_draw c__law_long c__law_power c__law_ratio c__law_refused c__law_same c__law_text c_read_ratio c_show_ratio : FD} {ts ti : Nat → Nat → Option Bool} {xa : Nat → List Nat} (h1 : Deck c__law_deck) (h2 : Draw c__law_draw) (h3 : LLong ts ti c__law_long) (h4 : LPow c__law_power) (h5 : LRatio c__law_ratio)
    (h6 : LRef4 ts ti xa c__law_refused) (h7 : Same 1 c__law_same) (h8 : LText c__law_text) (h9 : PReadR c_read_ratio) (h10 : PShow c_show_ratio) (s1 : ts 10 0 = some true) (s2 : ts 9 0 = some true) (t1 : ti 10 10 = some true) (t2 : ti 10 100 = some true) (t3 : ti 9 9 = some true) (x1 : (xa 10).elem 79 = true)
    (ns : List Int) (_ : ns.length ≤ 63) (hb : ∀ z ∈ ns, z.natAbs < 2 ^ 1048577) : VF (P_law_47 c__law_deck c__law_draw c__law_long c__law_power c__law_ratio c__law_refused c__law_same c__law_text c_read_ratio c_show_ratio) [.frz (ns.map .int)] [] (fun y _ => y = .bl true) noq := by
  refine vf_run ?_
  walk_at "v0"
  walk_at "v"
  refine vc_fr (h1 ns hb) (fun y o1 ⟨n, c, ey, eo, hk⟩ => ?_) (fun _ _ z => z.elim)
  subst ey; subst eo
  refine sq_nx ?_
  walk_at "set"
  refine vs_cut (fun E o => ∃ (p : Int) (c' : C), 0 ≤ p ∧ p < 10 ^ 12 ∧ DK ns 2 c' ∧ E = [some (.frz (ns.map .int)), some (.own n), some (.int p), none, none, none, none, none, none, none] ∧ o = [(n, c')]) ?_ (fun E o ⟨p, c2, p0, p1, k2, eE, eo⟩ => ?_)
  · walk_at "v"
    refine draw_call h2 .here hk (by omega) (by decide) (by decide) fun r1 c1 r10 r11 k1 => ?_
    walk_at "v"
    have hr : r1 = 0 ∨ r1 = 1 ∨ r1 = 2 := by omega
    rcases hr with rfl | rfl | rfl <;> (walk_at "v"; refine draw_call h2 .here k1 (by omega) (by decide) (by decide) fun r2 c3 r20 r21 k3 => ?_; walk_at "v"; exact ⟨_, _, r20, Int.lt_of_lt_of_le r21 (by decide), k3, rfl, rfl⟩)
  subst eE; subst eo
  refine vs_cut (fun E o => ∃ (q : Int) (c' : C), 1 ≤ q ∧ q < 10 ^ 12 ∧ DK ns 4 c' ∧ E = [some (.frz (ns.map .int)), some (.own n), some (.int p), some (.int q), none, none, none, none, none, none] ∧ o = [(n, c')]) ?_ (fun E o ⟨q, c4, q0, q1, k4, eE, eo⟩ => ?_)
  · walk_at "v"
    refine draw_call h2 .here k2 (by omega) (by decide) (by decide) fun r1 c3 r10 r11 k3 => ?_
    walk_at "v"
    have hr : r1 = 0 ∨ r1 = 1 ∨ r1 = 2 := by omega
    rcases hr with rfl | rfl | rfl <;> (walk_at "v"; refine draw_call h2 .here k3 (by omega) (by decide) (by decide) fun r2 c4 r20 r21 k4 => ?_; walk_at "v"; refine ⟨_, _, ?_, ?_, k4, rfl, rfl⟩)
    all_goals first
      | (show (1 : Int) ≤ 1 + r2; omega)
      | (have z : (10 : Int) ^ Int.toNat 12 = 1000000000000 := by decide
         have w : (10 : Int) ^ 12 = 1000000000000 := by decide
         omega)
  subst eE; subst eo
  walk_at "w"
  refine vc_p (h5 p q 40 (by omega) (by omega) (by omega) (by decide)) ?_
  walk_at "w"
  refine vs_cut (fun E o => ∃ (a : Int) (b : Nat) (c' : C), a.natAbs < 10 ^ 12 ∧ 0 < b ∧ b < 10 ^ 12 ∧ Nat.gcd a.natAbs b = 1 ∧ DK ns 5 c' ∧ E = [some (.frz (ns.map .int)), some (.own n), some (.int p), some (.int q), some (.tup [.int a, .int (b : Nat)]), none, none, none, none, none] ∧ o = [(n, c')]) ?_ (fun E o ⟨a, b, c5, a0, b0, b1, ab, k5, eE, eo⟩ => ?_)
  · walk_at "v"
    refine draw_call h2 .here k4 (by omega) (by decide) (by decide) fun r1 c3 r10 r11 k3 => ?_
    have hn := num_ltN (p := p) (q := q) (N := 10 ^ 12) (by omega) (by omega)
    have hd := den_ltN (p := p) (q := q) (N := 10 ^ 12) (by omega) (by omega)
    have hg : Nat.gcd (Rat.divInt p q).num.natAbs (Rat.divInt p q).den = 1 := (Rat.divInt p q).reduced
    have hp := (Rat.divInt p q).den_pos
    walk_at "v"
    · exact ⟨_, _, _, by rw [Int.natAbs_neg]; exact hn, hp, hd, by rw [Int.natAbs_neg]; exact hg, k3, rfl, rfl⟩
    · exact ⟨_, _, _, hn, hp, hd, hg, k3, rfl, rfl⟩
  subst eE; subst eo
  walk_at "w"
  have a3 : a.natAbs < 10 ^ 1000 := Nat.lt_of_lt_of_le a0 (Nat.pow_le_pow_right (by decide) (by decide))
  have b3 : b < 10 ^ 1000 := Nat.lt_of_lt_of_le b1 (Nat.pow_le_pow_right (by decide) (by decide))
  have la := TL.numL_len (k := 12) (by decide) a0
  have lb := TL.numL_len (k := 12) (by decide) b1
  have hr := rdN_rat a0 b0 b1 ab
  have lt : (ratL a b).length ≤ 30 := by
    unfold ratL
    rw [List.length_append]
    have z1 : (if a < 0 then 45 :: TL.numL a.natAbs else TL.numL a.natAbs).length ≤ 13 := by
      split
      · rw [List.length_cons]; omega
      · omega
    have z2 : (if b = 1 then [] else 47 :: TL.numL b).length ≤ 13 := by
      split
      · exact Nat.zero_le _
      · rw [List.length_cons]; omega
    omega
  refine vc_p (h8 a b a3 b0 b3) ?_
  walk_at "v"
  refine vc_p (h10 a b a3 b0 b3) ?_
  walk_at "v"
  refine vc_fr (h9 (ratL a b) (by omega)) (fun y o ⟨eo, p', q', e, ey⟩ => ?_) (fun x o ⟨_, e, _⟩ => absurd (hr.symm.trans e) (fun z => nomatch z))
  rw [hr] at e
  cases e
  subst eo; subst ey
  walk_at "v"
  have a4 : ((a.natAbs : Nat) : Int).natAbs < 10 ^ 4300 := by rw [Int.natAbs_natCast]; exact Nat.lt_of_lt_of_le a0 (Nat.pow_le_pow_right (by decide) (by decide))
  rw [absN]
  refine f_strL a4 ?_
  have e1 := str_int ((a.natAbs : Nat) : Int)
  rw [if_neg (Int.not_lt.mpr (Int.natCast_nonneg _)), Int.natAbs_natCast] at e1
  rw [show toString ((a.natAbs : Nat) : Int) = toString ((a.natAbs : Nat) : Int) from rfl, e1]
  have lm : (mkS (TL.numL a.natAbs)).length ≤ 100 := by rw [mkS_len]; omega
  have lt2 : (mkS (ratL a b)).length ≤ 100 := by rw [mkS_len]; omega
  have bd := bads (m := a.natAbs) (t := ratL a b) la lt
  have hcat : (Str.ofString "-" ++ mkS (TL.numL a.natAbs)).length ≤ 100 := by
    rw [TL.len_tl, tl2 (k := [45]) (by decide +kernel) (tl_mk _), List.length_append]
    simp only [List.length_cons, List.length_nil]
    omega
  clear a3 b3 a4
  generalize mkS (TL.numL a.natAbs) = d at *
  generalize mkS (ratL a b) = t at *
  walk_at "v"
  refine b_addC (by first | assumption | decide +kernel) (by first | assumption | decide +kernel) ?_
  walk_at "v"
  refine b_addC (by first | assumption | decide +kernel) (by first | assumption | decide +kernel) ?_
  walk_at "v"
  refine b_addC (by first | assumption | decide +kernel) (by first | assumption | decide +kernel) ?_
  walk_at "v"
  refine b_addC (by first | assumption | decide +kernel) (by first | assumption | decide +kernel) ?_
  walk_at "v"
  refine b_addC (by first | assumption | decide +kernel) (by first | assumption | decide +kernel) ?_
  walk_at "v"
  refine b_addC (by first | assumption | decide +kernel) (by first | assumption | decide +kernel) ?_
  walk_at "v"
  refine b_addC (by first | assumption | decide +kernel) (by first | assumption | decide +kernel) ?_
  walk_at "v"
  refine b_addC (by first | assumption | decide +kernel) (by first | assumption | decide +kernel) ?_
  walk_at "v"
  refine b_addC (by first | assumption | decide +kernel) (by first | assumption | decide +kernel) ?_
  walk_at "v"
  refine b_addC (by first | assumption | decide +kernel) (by first | assumption | decide +kernel) ?_
  walk_at "v"
  refine b_addC (by first | assumption | decide +kernel) (by first | assumption | decide +kernel) ?_
  walk_at "v"
  refine b_addC (by first | assumption | decide +kernel) (by first | assumption | decide +kernel) ?_
  walk_at "v"
  refine b_addC (by first | assumption | decide +kernel) (by first | assumption | decide +kernel) ?_
  walk_at "v"
  refine b_addC (by first | assumption | decide +kernel) (by first | assumption | decide +kernel) ?_
  walk_at "v"
  refine b_mulS ⟨by decide, by decide, by decide +kernel, by decide +kernel⟩ ?_
  walk_at "v"
  refine b_addC (by first | assumption | decide +kernel) (by first | assumption | decide +kernel) ?_
  walk_at "v"
  refine b_mulS ⟨by decide, by decide, by decide +kernel, by decide +kernel⟩ ?_
  walk_at "v"
  refine b_addC (by first | assumption | decide +kernel) (by first | assumption | decide +kernel) ?_
  walk_at "v"
  refine b_addC (by first | assumption | decide +kernel) (by first | assumption | decide +kernel) ?_
  walk_at "v"
  refine b_addC (by first | assumption | decide +kernel) (by first | assumption | decide +kernel) ?_
  walk_at "v"
  refine b_addC (by first | assumption | decide +kernel) (by first | assumption | decide +kernel) ?_
  walk_at "v"
  refine b_addC (by first | assumption | decide +kernel) (by first | assumption | decide +kernel) ?_
  walk_at "v"
  refine b_addC (by first | assumption | decide +kernel) (by first | assumption | decide +kernel) ?_
  walk_at "v"
  refine vs_for (vi_seq ?_)
  walk_at "v"
  refine ⟨_, _, .lst _, ?_⟩
  refine for_ix (fun i E o => ∃ z w, E = [some (.frz (ns.map .int)), some (.own n), some (.int p), some (.int q), some (.tup [.int a, .int (b : Nat)]), some (.str t), some (.str d), z, w, none] ∧ o = [(n, c5)]) ⟨_, _, rfl, rfl⟩ (fun i hi E o ⟨z, w, eE, eo⟩ => ?_) (fun E o ⟨z, w, eE, eo⟩ => ?_)
  · obtain ⟨x, ex, hx, hrx⟩ := bd _ (List.getElem_mem hi)
    rw [ex]
    have em := TL.mk_tl x
    rw [TL.len_tl] at hx
    generalize TL.tl x = l at *
    subst em
    clear bd ex
    subst eE; subst eo
    refine ⟨_, tg_n, ?_⟩
    walk_at "set"
    walk_at "v"
    refine vc_p (h6 s1 t1 t2 x1 l hx hrx) ?_
    walk_at "v"
    exact ⟨_, _, rfl, rfl⟩
  · clear bd
    subst eE; subst eo
    have pw : (10 : Int) ^ 1000 = ((10 ^ 1000 : Nat) : Int) := pwI 1000
    have np : 0 < 10 ^ 1000 := Nat.pow_pos (by decide)
    have n9 := numL_ge 999 (10 ^ 1000 - 1) (by
      have : (10 : Nat) ^ 1000 = 10 ^ 999 * 10 := Nat.pow_succ 10 999
      have : 0 < (10 : Nat) ^ 999 := Nat.pow_pos (by decide)
      omega)
    have n10 := TL.numL_len (n := 10 ^ 1000 - 1) (k := 1000) (by decide) (by omega)
    have f1 : VP c__law_long [.int (10 ^ 1000), .int 1] (.bl true) := h3 s2 t3 _ 1 (.inl (by rw [pw, Int.natAbs_natCast]; exact Int.le_refl _))
    have f2 : VP c__law_long [.int (-(10 ^ 1000)), .int 1] (.bl true) := h3 s2 t3 _ 1 (.inl (by rw [Int.natAbs_neg, pw, Int.natAbs_natCast]; exact Int.le_refl _))
    have f3 : VP c__law_long [.int 1, .int (10 ^ 1000)] (.bl true) := h3 s2 t3 1 _ (.inr (Int.le_refl _))
    have e4 : (10 : Int) ^ 1000 - 1 = ((10 ^ 1000 - 1 : Nat) : Int) := by rw [pw]; omega
    have f4 : VP c_show_ratio [.tup [.int (10 ^ 1000 - 1), .int 1]] (.str (mkS (TL.numL (10 ^ 1000 - 1)))) := by
      have z := h10 ((10 ^ 1000 - 1 : Nat) : Int) 1 (by rw [Int.natAbs_natCast]; omega) (by decide) (Nat.one_lt_pow (by decide) (by decide))
      unfold ratL at z
      rw [if_neg (Int.not_lt.mpr (Int.natCast_nonneg _)), if_pos rfl, List.append_nil, Int.natAbs_natCast, ← e4] at z
      exact z
    have l5 : (mkS (TL.numL (10 ^ 1000 - 1))).length = 1000 := by rw [mkS_len]; omega
    have hszl : szl = 16777216 := rfl
    walk_at "v"
    refine vc_p h4 ?_
    walk_at "v"
    refine vc_p f1 ?_
    walk_at "v"
    refine vc_p f2 ?_
    walk_at "v"
    refine vc_p f3 ?_
    walk_at "v"
    refine vc_p f4 ?_
    walk_at "v"
    refine f_lenS (by omega) ?_
    rw [l5]
    walk_at "v"
    exact ret_v (List.Sublist.refl _) (congrArg Y.bl (decide_eq_true (p := ((1000 : Nat) : Int) = 1000) rfl))
end
end Mn
namespace Lw
open PySem L2 Mn
def topS (i : Nat) : Stmt := PySem.Challenge.pw_unbent_k04_texts_of_fractions.main.body.getD i (.Pass ⟨0, 0, 0, 0⟩)
def subT : Nat → Nat → Option Bool := tb2 [(9, 0, true), (10, 0, true)]
def isiT : Nat → Nat → Option Bool := tb2 [(9, 9, true), (9, 10, false), (9, 100, true), (10, 9, false), (10, 10, true), (10, 100, true)]
def xaT : Nat → List Nat := xaOf [(9, [48]), (10, [79])]
def gl0 : Str × GV := ("is_number_text", .fn 0 1 [])
def gl1 : Str × GV := ("read_ratio", .fn 1 1 [])
def gl2 : Str × GV := ("show_ratio", .fn 2 1 [])
def gl3 : Str × GV := ("_law_deck", .fn 3 1 [])
def gl4 : Str × GV := ("_law_draw", .fn 4 2 [])
def gl5 : Str × GV := ("_law_same", .fn 5 2 [])
def gl6 : Str × GV := ("_law_gcd", .fn 6 2 [])
def gl7 : Str × GV := ("_law_ratio", .fn 7 2 [])
def gl8 : Str × GV := ("_law_text", .fn 8 1 [])
def gl9 : Str × GV := ("_law_refused", .fn 9 1 [])
def gl10 : Str × GV := ("_law_long", .fn 10 2 [])
def gl11 : Str × GV := ("_law_power", .fn 11 1 [])
def gl12 : Str × GV := ("law", .fn 12 1 [])
def gl13 : Str × GV := ("UnbentError", .cls 0)
def gl14 : Str × GV := ("TooLarge", .xcls 9 [48])
def gl15 : Str × GV := ("InvalidNumber", .xcls 10 [79])
def gl16 : Str × GV := ("ValueError", .bcls 100)
def gl17 : Str × GV := ("DIGITS", .val (.str "0123456789"))
def gl18 : Str × GV := ("MOST_DIGITS", .val (.int 12))
def gl19 : Str × GV := ("LONG", .val (.int 10000000000000000000000000000000000000000000000000000000000000000000000000000000000000000000000000000000000000000000000000000000000000000000000000000000000000000000000000000000000000000000000000000000000000000000000000000000000000000000000000000000000000000000000000000000000000000000000000000000000000000000000000000000000000000000000000000000000000000000000000000000000000000000000000000000000000000000000000000000000000000000000000000000000000000000000000000000000000000000000000000000000000000000000000000000000000000000000000000000000000000000000000000000000000000000000000000000000000000000000000000000000000000000000000000000000000000000000000000000000000000000000000000000000000000000000000000000000000000000000000000000000000000000000000000000000000000000000000000000000000000000000000000000000000000000000000000000000000000000000000000000000000000000000000000000000000000000000000000000000000000000000000000000000000000000000000000000000000000000000000000000000000000000000000000000000000000))
def gl20 : Str × GV := ("gcd", .bf "math.gcd")
def gl21 : Str × GV := ("abs", .blt)
def gl22 : Str × GV := ("all", .blt)
def gl23 : Str × GV := ("bool", .blt)
def gl24 : Str × GV := ("int", .blt)
def gl25 : Str × GV := ("isinstance", .blt)
def gl26 : Str × GV := ("len", .blt)
def gl27 : Str × GV := ("list", .blt)
def gl28 : Str × GV := ("range", .blt)
def gl29 : Str × GV := ("str", .blt)
def gl30 : Str × GV := ("tuple", .blt)
def gl : List (Str × GV) := [gl0, gl1, gl2, gl3, gl4, gl5, gl6, gl7, gl8, gl9, gl10, gl11, gl12, gl13, gl14, gl15, gl16, gl17, gl18, gl19, gl20, gl21, gl22, gl23, gl24, gl25, gl26, gl27, gl28, gl29, gl30]
abbrev st_is_number_text : Stmt := topS 9
abbrev nm_is_number_text : List Str := ["text", "character"]
theorem sc_is_number_text : FnScope nm_is_number_text ["text"] (defScope st_is_number_text) := ⟨rfl, rfl, rfl, by decide +kernel, rfl, by decide +kernel, by decide +kernel⟩
abbrev st_read_ratio : Stmt := topS 10
abbrev nm_read_ratio : List Str := ["text", "amount", "parts", "p", "q", "part"]
theorem sc_read_ratio : FnScope nm_read_ratio ["text"] (defScope st_read_ratio) := ⟨rfl, rfl, rfl, by decide +kernel, rfl, by decide +kernel, by decide +kernel⟩
abbrev st_show_ratio : Stmt := topS 11
abbrev nm_show_ratio : List Str := ["a"]
theorem sc_show_ratio : FnScope nm_show_ratio ["a"] (defScope st_show_ratio) := ⟨rfl, rfl, rfl, by decide +kernel, rfl, by decide +kernel, by decide +kernel⟩
abbrev st__law_deck : Stmt := topS 13
abbrev nm__law_deck : List Str := ["_law_script"]
theorem sc__law_deck : FnScope nm__law_deck ["_law_script"] (defScope st__law_deck) := ⟨rfl, rfl, rfl, by decide +kernel, rfl, by decide +kernel, by decide +kernel⟩
abbrev st__law_draw : Stmt := topS 14
abbrev nm__law_draw : List Str := ["_law_deck_here", "_law_most", "_law_value", "_law_cell"]
theorem sc__law_draw : FnScope nm__law_draw ["_law_deck_here", "_law_most"] (defScope st__law_draw) := ⟨rfl, rfl, rfl, by decide +kernel, rfl, by decide +kernel, by decide +kernel⟩
abbrev st__law_same : Stmt := topS 15
abbrev nm__law_same : List Str := ["_law_actual", "_law_due", "_law_k"]
theorem sc__law_same : FnScope nm__law_same ["_law_actual", "_law_due"] (defScope st__law_same) := ⟨rfl, rfl, rfl, by decide +kernel, rfl, by decide +kernel, by decide +kernel⟩
abbrev st__law_gcd : Stmt := topS 16
abbrev nm__law_gcd : List Str := ["_law_a", "_law_b", "_law_k", "_law_rest"]
theorem sc__law_gcd : FnScope nm__law_gcd ["_law_a", "_law_b"] (defScope st__law_gcd) := ⟨rfl, rfl, rfl, by decide +kernel, rfl, by decide +kernel, by decide +kernel⟩
abbrev st__law_ratio : Stmt := topS 17
abbrev nm__law_ratio : List Str := ["_law_p", "_law_q", "_law_divisor"]
theorem sc__law_ratio : FnScope nm__law_ratio ["_law_p", "_law_q"] (defScope st__law_ratio) := ⟨rfl, rfl, rfl, by decide +kernel, rfl, by decide +kernel, by decide +kernel⟩
abbrev st__law_text : Stmt := topS 18
abbrev nm__law_text : List Str := ["_law_a", "_law_text_here"]
theorem sc__law_text : FnScope nm__law_text ["_law_a"] (defScope st__law_text) := ⟨rfl, rfl, rfl, by decide +kernel, rfl, by decide +kernel, by decide +kernel⟩
abbrev st__law_refused : Stmt := topS 19
abbrev nm__law_refused : List Str := ["_law_text_here", "e"]
theorem sc__law_refused : FnScope nm__law_refused ["_law_text_here"] (defScope st__law_refused) := ⟨rfl, rfl, rfl, by decide +kernel, rfl, by decide +kernel, by decide +kernel⟩
abbrev st__law_long : Stmt := topS 20
abbrev nm__law_long : List Str := ["_law_p", "_law_q", "e"]
theorem sc__law_long : FnScope nm__law_long ["_law_p", "_law_q"] (defScope st__law_long) := ⟨rfl, rfl, rfl, by decide +kernel, rfl, by decide +kernel, by decide +kernel⟩
abbrev st__law_power : Stmt := topS 21
abbrev nm__law_power : List Str := ["_law_many", "_law_number", "_law_k"]
theorem sc__law_power : FnScope nm__law_power ["_law_many"] (defScope st__law_power) := ⟨rfl, rfl, rfl, by decide +kernel, rfl, by decide +kernel, by decide +kernel⟩
abbrev st_law : Stmt := topS 22
abbrev nm_law : List Str := ["_law_script", "_law_deck_here", "_law_p", "_law_q", "_law_a", "_law_text_here", "_law_digits", "_law_bad", "_law_row", "_law_long_here"]
theorem sc_law : FnScope nm_law ["_law_script"] (defScope st_law) := ⟨rfl, rfl, rfl, by decide +kernel, rfl, by decide +kernel, by decide +kernel⟩
abbrev st_TooLarge : Stmt := inClass (topS 3) 0
theorem sc_TooLarge : FnScope ["self", "limit"] ["self", "limit"] (defScope st_TooLarge) := ⟨rfl, rfl, rfl, by decide +kernel, rfl, by decide +kernel, by decide +kernel⟩
abbrev st_InvalidNumber : Stmt := inClass (topS 4) 0
theorem sc_InvalidNumber : FnScope ["self", "text"] ["self", "text"] (defScope st_InvalidNumber) := ⟨rfl, rfl, rfl, by decide +kernel, rfl, by decide +kernel, by decide +kernel⟩
def fl : List (Str × Nat) := [("text", 79)]
def ms : List (Str × List (Nat × Nat × Nat × List D)) := []
def pg : Pg := ⟨[⟨nm_is_number_text, defScope st_is_number_text, defBody st_is_number_text⟩, ⟨nm_read_ratio, defScope st_read_ratio, defBody st_read_ratio⟩, ⟨nm_show_ratio, defScope st_show_ratio, defBody st_show_ratio⟩, ⟨nm__law_deck, defScope st__law_deck, defBody st__law_deck⟩, ⟨nm__law_draw, defScope st__law_draw, defBody st__law_draw⟩, ⟨nm__law_same, defScope st__law_same, defBody st__law_same⟩, ⟨nm__law_gcd, defScope st__law_gcd, defBody st__law_gcd⟩, ⟨nm__law_ratio, defScope st__law_ratio, defBody st__law_ratio⟩, ⟨nm__law_text, defScope st__law_text, defBody st__law_text⟩, ⟨nm__law_refused, defScope st__law_refused, defBody st__law_refused⟩, ⟨nm__law_long, defScope st__law_long, defBody st__law_long⟩, ⟨nm__law_power, defScope st__law_power, defBody st__law_power⟩, ⟨nm_law, defScope st_law, defBody st_law⟩], gl, fl, ms, subT, isiT, xaT, 1000000000⟩
theorem E_is_number_text (T : Nat → FD) : pg.run T ⟨nm_is_number_text, defScope st_is_number_text, defBody st_is_number_text⟩ = P_is_number_text := by rfl
theorem U_is_number_text (k : Nat) : pg.tbl (k + 1) 0 = P_is_number_text := E_is_number_text _
theorem E_read_ratio (T : Nat → FD) : pg.run T ⟨nm_read_ratio, defScope st_read_ratio, defBody st_read_ratio⟩ = P_read_ratio (T 0) := by rfl
theorem U_read_ratio (k : Nat) : pg.tbl (k + 1) 1 = P_read_ratio (pg.tbl k 0) := E_read_ratio _
theorem E_show_ratio (T : Nat → FD) : pg.run T ⟨nm_show_ratio, defScope st_show_ratio, defBody st_show_ratio⟩ = P_show_ratio_2 := by rfl
theorem U_show_ratio (k : Nat) : pg.tbl (k + 1) 2 = P_show_ratio_2 := E_show_ratio _
theorem E__law_deck (T : Nat → FD) : pg.run T ⟨nm__law_deck, defScope st__law_deck, defBody st__law_deck⟩ = P__law_deck := by rfl
theorem U__law_deck (k : Nat) : pg.tbl (k + 1) 3 = P__law_deck := E__law_deck _
theorem E__law_draw (T : Nat → FD) : pg.run T ⟨nm__law_draw, defScope st__law_draw, defBody st__law_draw⟩ = P__law_draw := by rfl
theorem U__law_draw (k : Nat) : pg.tbl (k + 1) 4 = P__law_draw := E__law_draw _
theorem E__law_same (T : Nat → FD) : pg.run T ⟨nm__law_same, defScope st__law_same, defBody st__law_same⟩ = P__law_same (T 5) := by rfl
theorem U__law_same (k : Nat) : pg.tbl (k + 1) 5 = P__law_same (pg.tbl k 5) := E__law_same _
theorem E__law_gcd (T : Nat → FD) : pg.run T ⟨nm__law_gcd, defScope st__law_gcd, defBody st__law_gcd⟩ = P__law_gcd := by rfl
theorem U__law_gcd (k : Nat) : pg.tbl (k + 1) 6 = P__law_gcd := E__law_gcd _
theorem E__law_ratio (T : Nat → FD) : pg.run T ⟨nm__law_ratio, defScope st__law_ratio, defBody st__law_ratio⟩ = P__law_ratio (T 6) := by rfl
theorem U__law_ratio (k : Nat) : pg.tbl (k + 1) 7 = P__law_ratio (pg.tbl k 6) := E__law_ratio _
theorem E__law_text (T : Nat → FD) : pg.run T ⟨nm__law_text, defScope st__law_text, defBody st__law_text⟩ = P__law_text_3 := by rfl
theorem U__law_text (k : Nat) : pg.tbl (k + 1) 8 = P__law_text_3 := E__law_text _
theorem E__law_refused (T : Nat → FD) : pg.run T ⟨nm__law_refused, defScope st__law_refused, defBody st__law_refused⟩ = P__law_refused_14 subT isiT xaT (T 1) := by rfl
theorem U__law_refused (k : Nat) : pg.tbl (k + 1) 9 = P__law_refused_14 subT isiT xaT (pg.tbl k 1) := E__law_refused _
theorem E__law_long (T : Nat → FD) : pg.run T ⟨nm__law_long, defScope st__law_long, defBody st__law_long⟩ = P__law_long subT isiT (T 2) := by rfl
theorem U__law_long (k : Nat) : pg.tbl (k + 1) 10 = P__law_long subT isiT (pg.tbl k 2) := E__law_long _
theorem E__law_power (T : Nat → FD) : pg.run T ⟨nm__law_power, defScope st__law_power, defBody st__law_power⟩ = P__law_power := by rfl
theorem U__law_power (k : Nat) : pg.tbl (k + 1) 11 = P__law_power := E__law_power _
theorem E_law (T : Nat → FD) : pg.run T ⟨nm_law, defScope st_law, defBody st_law⟩ = P_law_47 (T 3) (T 4) (T 10) (T 11) (T 7) (T 9) (T 5) (T 8) (T 1) (T 2) := by rfl
theorem U_law (k : Nat) : pg.tbl (k + 1) 12 = P_law_47 (pg.tbl k 3) (pg.tbl k 4) (pg.tbl k 10) (pg.tbl k 11) (pg.tbl k 7) (pg.tbl k 9) (pg.tbl k 5) (pg.tbl k 8) (pg.tbl k 1) (pg.tbl k 2) := E_law _
end Lw
namespace Lw
open PySem L2 Mn
theorem t_Deck__law_deck (k : Nat) : Deck (pg.tbl (k + 1) 3) := by rw [U__law_deck]; exact deck_ok 
theorem t_Draw__law_draw (k : Nat) : Draw (pg.tbl (k + 1) 4) := by rw [U__law_draw]; exact draw_ok 
theorem t_PShowB_show_ratio (k : Nat) : PShowB (pg.tbl (k + 1) 2) := by rw [U_show_ratio]; exact showb_ok 
theorem t_LLong_subT_isiT__law_long (k : Nat) : LLong subT isiT (pg.tbl (k + 2) 10) := by rw [U__law_long]; exact llong_ok (t_PShowB_show_ratio (k + 0))
theorem t_LPow__law_power (k : Nat) : LPow (pg.tbl (k + 1) 11) := by rw [U__law_power]; exact lpow_ok 
theorem t_Gcd__law_gcd (k : Nat) : Gcd (pg.tbl (k + 1) 6) := by rw [U__law_gcd]; exact gcd_ok 
theorem t_LRatio__law_ratio (k : Nat) : LRatio (pg.tbl (k + 2) 7) := by rw [U__law_ratio]; exact ratio_ok (t_Gcd__law_gcd (k + 0))
theorem t_PNumT_is_number_text (k : Nat) : PNumT (pg.tbl (k + 1) 0) := by rw [U_is_number_text]; exact numT_ok 
theorem t_PReadR_read_ratio (k : Nat) : PReadR (pg.tbl (k + 2) 1) := by rw [U_read_ratio]; exact readr_ok (t_PNumT_is_number_text (k + 0))
theorem t_LRef4_subT_isiT_xaT__law_refused (k : Nat) : LRef4 subT isiT xaT (pg.tbl (k + 3) 9) := by rw [U__law_refused]; exact lref4_ok (t_PReadR_read_ratio (k + 0))
theorem t_same : ∀ (j k : Nat), Same j (pg.tbl (k + j + 1) 5)
  | 0, k => by rw [U__law_same]; exact same_ok 0 (fun j h => by omega)
  | j + 1, k => by rw [U__law_same]; exact same_ok (j + 1) (fun i h => by cases h; exact t_same j k)
theorem t_same_1 (k : Nat) : Same 1 (pg.tbl (k + 2) 5) := t_same 1 k
theorem t_LText__law_text (k : Nat) : LText (pg.tbl (k + 1) 8) := by rw [U__law_text]; exact ltext_ok 
theorem t_PShow_show_ratio (k : Nat) : PShow (pg.tbl (k + 1) 2) := by rw [U_show_ratio]; exact show_ok 
theorem law_true (ns : List Int) (h1 : ns.length ≤ 63) (h2 : ∀ z ∈ ns, Builtin.Int.intBits z ≤ 1048576) : ∃ h, pg.tbl 4 12 [.ref 0] [.frz (ns.map .int)] = .ok (.bl true) h := by
  rw [U_law]
  exact law_of (law04_ok (t_Deck__law_deck 2) (t_Draw__law_draw 2) (t_LLong_subT_isiT__law_long 1) (t_LPow__law_power 2) (t_LRatio__law_ratio 1) (t_LRef4_subT_isiT_xaT__law_refused 0) (t_same_1 1) (t_LText__law_text 2) (t_PReadR_read_ratio 1) (t_PShow_show_ratio 2) rfl rfl rfl rfl rfl rfl ns h1 fun z hz => bits_of (h2 z hz))
end Lw
namespace Lw
open PySem L2 Mn
def cvL (C0 C9 C10 : Addr) : Nat → Value  | 0 => .ref C0 | 9 => .ref C9 | 10 => .ref C10 | 100 => .type "ValueError" | _ => .none
theorem pg_mk {K : PySem.W.Frag} {h : Heap} {mg : Str → Option Value} (X : K.In h) (G : h.Ns mainGlobals mg)
    {f0 : Addr} {od0 an0 : Option Addr} {sl0 : Array (Option Value)} {oc0 kV0 dc0 pm0 cd0 ct0 : Value}
    {f1 : Addr} {od1 an1 : Option Addr} {sl1 : Array (Option Value)} {oc1 kV1 dc1 pm1 cd1 ct1 : Value}
    {f2 : Addr} {od2 an2 : Option Addr} {sl2 : Array (Option Value)} {oc2 kV2 dc2 pm2 cd2 ct2 : Value}
    {f3 : Addr} {od3 an3 : Option Addr} {sl3 : Array (Option Value)} {oc3 kV3 dc3 pm3 cd3 ct3 : Value}
    {f4 : Addr} {od4 an4 : Option Addr} {sl4 : Array (Option Value)} {oc4 kV4 dc4 pm4 cd4 ct4 : Value}
    {f5 : Addr} {od5 an5 : Option Addr} {sl5 : Array (Option Value)} {oc5 kV5 dc5 pm5 cd5 ct5 : Value}
    {f6 : Addr} {od6 an6 : Option Addr} {sl6 : Array (Option Value)} {oc6 kV6 dc6 pm6 cd6 ct6 : Value}
    {f7 : Addr} {od7 an7 : Option Addr} {sl7 : Array (Option Value)} {oc7 kV7 dc7 pm7 cd7 ct7 : Value}
    {f8 : Addr} {od8 an8 : Option Addr} {sl8 : Array (Option Value)} {oc8 kV8 dc8 pm8 cd8 ct8 : Value}
    {f9 : Addr} {od9 an9 : Option Addr} {sl9 : Array (Option Value)} {oc9 kV9 dc9 pm9 cd9 ct9 : Value}
    {f10 : Addr} {od10 an10 : Option Addr} {sl10 : Array (Option Value)} {oc10 kV10 dc10 pm10 cd10 ct10 : Value}
    {f11 : Addr} {od11 an11 : Option Addr} {sl11 : Array (Option Value)} {oc11 kV11 dc11 pm11 cd11 ct11 : Value}
    {f12 : Addr} {od12 an12 : Option Addr} {sl12 : Array (Option Value)} {oc12 kV12 dc12 pm12 cd12 ct12 : Value}
    {C0 : Addr}
    {C9 : Addr}
    {N9 xf9 : Addr} {xn9 xq9 : Str} {xb9 xm9 xs9 : List Value} {xl9 : List Str} {xab9 : Bool} {xco9 : Option Bool} {xd9 xo9 xan9 : Option Addr} {x0k9 x1k9 x2k9 x3k9 x5k9 : Option Value} {xoc9 xkV9 xdc9 xpm9 xcd9 xct9 : Value} {xsl9 : Array (Option Value)}
    {C10 : Addr}
    {N10 xf10 : Addr} {xn10 xq10 : Str} {xb10 xm10 xs10 : List Value} {xl10 : List Str} {xab10 : Bool} {xco10 : Option Bool} {xd10 xo10 xan10 : Option Addr} {x0k10 x1k10 x2k10 x3k10 x5k10 : Option Value} {xoc10 xkV10 xdc10 xpm10 xcd10 xct10 : Value} {xsl10 : Array (Option Value)}
    {tV_DIGITS : Tok}
    {tV_MOST_DIGITS : Tok}
    {tV_LONG : Tok}
    (a0 : PySem.W.nsIn K mainGlobals "is_number_text" = some (some (.ref f0)))
    (l0 : K.lookup f0 = some ⟨oc0, od0, .func (PySem.W.fnOf "is_number_text" "is_number_text" (defArgs st_is_number_text) (defBody st_is_number_text) (defScope st_is_number_text) .none kV0 dc0 pm0 an0 cd0 ct0), sl0⟩)
    (c0 : PySem.W.codeIn K cd0 "is_number_text" = true)
    (k0 : PySem.W.keepIn K (.ref f0) = true)
    (a1 : PySem.W.nsIn K mainGlobals "read_ratio" = some (some (.ref f1)))
    (l1 : K.lookup f1 = some ⟨oc1, od1, .func (PySem.W.fnOf "read_ratio" "read_ratio" (defArgs st_read_ratio) (defBody st_read_ratio) (defScope st_read_ratio) .none kV1 dc1 pm1 an1 cd1 ct1), sl1⟩)
    (c1 : PySem.W.codeIn K cd1 "read_ratio" = true)
    (k1 : PySem.W.keepIn K (.ref f1) = true)
    (a2 : PySem.W.nsIn K mainGlobals "show_ratio" = some (some (.ref f2)))
    (l2 : K.lookup f2 = some ⟨oc2, od2, .func (PySem.W.fnOf "show_ratio" "show_ratio" (defArgs st_show_ratio) (defBody st_show_ratio) (defScope st_show_ratio) .none kV2 dc2 pm2 an2 cd2 ct2), sl2⟩)
    (c2 : PySem.W.codeIn K cd2 "show_ratio" = true)
    (k2 : PySem.W.keepIn K (.ref f2) = true)
    (a3 : PySem.W.nsIn K mainGlobals "_law_deck" = some (some (.ref f3)))
    (l3 : K.lookup f3 = some ⟨oc3, od3, .func (PySem.W.fnOf "_law_deck" "_law_deck" (defArgs st__law_deck) (defBody st__law_deck) (defScope st__law_deck) .none kV3 dc3 pm3 an3 cd3 ct3), sl3⟩)
    (c3 : PySem.W.codeIn K cd3 "_law_deck" = true)
    (k3 : PySem.W.keepIn K (.ref f3) = true)
    (a4 : PySem.W.nsIn K mainGlobals "_law_draw" = some (some (.ref f4)))
    (l4 : K.lookup f4 = some ⟨oc4, od4, .func (PySem.W.fnOf "_law_draw" "_law_draw" (defArgs st__law_draw) (defBody st__law_draw) (defScope st__law_draw) .none kV4 dc4 pm4 an4 cd4 ct4), sl4⟩)
    (c4 : PySem.W.codeIn K cd4 "_law_draw" = true)
    (k4 : PySem.W.keepIn K (.ref f4) = true)
    (a5 : PySem.W.nsIn K mainGlobals "_law_same" = some (some (.ref f5)))
    (l5 : K.lookup f5 = some ⟨oc5, od5, .func (PySem.W.fnOf "_law_same" "_law_same" (defArgs st__law_same) (defBody st__law_same) (defScope st__law_same) .none kV5 dc5 pm5 an5 cd5 ct5), sl5⟩)
    (c5 : PySem.W.codeIn K cd5 "_law_same" = true)
    (k5 : PySem.W.keepIn K (.ref f5) = true)
    (a6 : PySem.W.nsIn K mainGlobals "_law_gcd" = some (some (.ref f6)))
    (l6 : K.lookup f6 = some ⟨oc6, od6, .func (PySem.W.fnOf "_law_gcd" "_law_gcd" (defArgs st__law_gcd) (defBody st__law_gcd) (defScope st__law_gcd) .none kV6 dc6 pm6 an6 cd6 ct6), sl6⟩)
    (c6 : PySem.W.codeIn K cd6 "_law_gcd" = true)
    (k6 : PySem.W.keepIn K (.ref f6) = true)
    (a7 : PySem.W.nsIn K mainGlobals "_law_ratio" = some (some (.ref f7)))
    (l7 : K.lookup f7 = some ⟨oc7, od7, .func (PySem.W.fnOf "_law_ratio" "_law_ratio" (defArgs st__law_ratio) (defBody st__law_ratio) (defScope st__law_ratio) .none kV7 dc7 pm7 an7 cd7 ct7), sl7⟩)
    (c7 : PySem.W.codeIn K cd7 "_law_ratio" = true)
    (k7 : PySem.W.keepIn K (.ref f7) = true)
    (a8 : PySem.W.nsIn K mainGlobals "_law_text" = some (some (.ref f8)))
    (l8 : K.lookup f8 = some ⟨oc8, od8, .func (PySem.W.fnOf "_law_text" "_law_text" (defArgs st__law_text) (defBody st__law_text) (defScope st__law_text) .none kV8 dc8 pm8 an8 cd8 ct8), sl8⟩)
    (c8 : PySem.W.codeIn K cd8 "_law_text" = true)
    (k8 : PySem.W.keepIn K (.ref f8) = true)
    (a9 : PySem.W.nsIn K mainGlobals "_law_refused" = some (some (.ref f9)))
    (l9 : K.lookup f9 = some ⟨oc9, od9, .func (PySem.W.fnOf "_law_refused" "_law_refused" (defArgs st__law_refused) (defBody st__law_refused) (defScope st__law_refused) .none kV9 dc9 pm9 an9 cd9 ct9), sl9⟩)
    (c9 : PySem.W.codeIn K cd9 "_law_refused" = true)
    (k9 : PySem.W.keepIn K (.ref f9) = true)
    (a10 : PySem.W.nsIn K mainGlobals "_law_long" = some (some (.ref f10)))
    (l10 : K.lookup f10 = some ⟨oc10, od10, .func (PySem.W.fnOf "_law_long" "_law_long" (defArgs st__law_long) (defBody st__law_long) (defScope st__law_long) .none kV10 dc10 pm10 an10 cd10 ct10), sl10⟩)
    (c10 : PySem.W.codeIn K cd10 "_law_long" = true)
    (k10 : PySem.W.keepIn K (.ref f10) = true)
    (a11 : PySem.W.nsIn K mainGlobals "_law_power" = some (some (.ref f11)))
    (l11 : K.lookup f11 = some ⟨oc11, od11, .func (PySem.W.fnOf "_law_power" "_law_power" (defArgs st__law_power) (defBody st__law_power) (defScope st__law_power) .none kV11 dc11 pm11 an11 cd11 ct11), sl11⟩)
    (c11 : PySem.W.codeIn K cd11 "_law_power" = true)
    (k11 : PySem.W.keepIn K (.ref f11) = true)
    (a12 : PySem.W.nsIn K mainGlobals "law" = some (some (.ref f12)))
    (l12 : K.lookup f12 = some ⟨oc12, od12, .func (PySem.W.fnOf "law" "law" (defArgs st_law) (defBody st_law) (defScope st_law) .none kV12 dc12 pm12 an12 cd12 ct12), sl12⟩)
    (c12 : PySem.W.codeIn K cd12 "law" = true)
    (k12 : PySem.W.keepIn K (.ref f12) = true)
    (ca0 : PySem.W.nsIn K mainGlobals "UnbentError" = some (some (.ref C0)))
    (cb0 : PySem.W.keepIn K (.ref C0) = true)
    (cc0 : PySem.W.excIn K C0 [.type "ValueError", .type "Exception", .type "BaseException", .type "object"] "ValueError.__new__" = true)
    (cd1000 : PySem.W.subIn K (.ref C0) (.type "BaseException") = some true)
    (ce0 : PySem.W.typeIn K (.ref C0) = some (.type "type"))
    (ca9 : PySem.W.nsIn K mainGlobals "TooLarge" = some (some (.ref C9)))
    (cb9 : PySem.W.keepIn K (.ref C9) = true)
    (xlc9 : K.lookup C9 = some (excClassObj xn9 xq9 C9 N9 xb9 xm9 true xl9 xs9 xab9 xco9 xd9 x0k9 x1k9 x2k9 x3k9 x5k9 "ValueError.__new__"))
    (xr9 : PySem.HandSPX.refsVE xm9 = true)
    (xsa9 : PySem.W.findIn K (.ref C9) "__setattr__" = some (some (.builtin "object.__setattr__")))
    (cd1009 : PySem.W.subIn K (.ref C9) (.type "BaseException") = some true)
    (ce9 : PySem.W.typeIn K (.ref C9) = some (.type "type"))
    (xi9 : PySem.W.findIn K (.ref C9) "__init__" = some (some (.ref xf9)))
    (xt9 : PySem.W.typeIn K (.ref xf9) = some (.type "function"))
    (xw9 : K.lookup xf9 = some ⟨xoc9, xo9, .func (PySem.W.fnOf "__init__" "TooLarge.__init__" (defArgs st_TooLarge) (defBody st_TooLarge) (defScope st_TooLarge) .none xkV9 xdc9 xpm9 xan9 xcd9 xct9), xsl9⟩)
    (xc9 : PySem.W.codeIn K xcd9 "TooLarge.__init__" = true)
    (xf9_48 : PySem.W.findIn K (.ref C9) (fnm 48) = some none)
    (ca10 : PySem.W.nsIn K mainGlobals "InvalidNumber" = some (some (.ref C10)))
    (cb10 : PySem.W.keepIn K (.ref C10) = true)
    (xlc10 : K.lookup C10 = some (excClassObj xn10 xq10 C10 N10 xb10 xm10 true xl10 xs10 xab10 xco10 xd10 x0k10 x1k10 x2k10 x3k10 x5k10 "ValueError.__new__"))
    (xr10 : PySem.HandSPX.refsVE xm10 = true)
    (xsa10 : PySem.W.findIn K (.ref C10) "__setattr__" = some (some (.builtin "object.__setattr__")))
    (cd1010 : PySem.W.subIn K (.ref C10) (.type "BaseException") = some true)
    (ce10 : PySem.W.typeIn K (.ref C10) = some (.type "type"))
    (xi10 : PySem.W.findIn K (.ref C10) "__init__" = some (some (.ref xf10)))
    (xt10 : PySem.W.typeIn K (.ref xf10) = some (.type "function"))
    (xw10 : K.lookup xf10 = some ⟨xoc10, xo10, .func (PySem.W.fnOf "__init__" "InvalidNumber.__init__" (defArgs st_InvalidNumber) (defBody st_InvalidNumber) (defScope st_InvalidNumber) .none xkV10 xdc10 xpm10 xan10 xcd10 xct10), xsl10⟩)
    (xc10 : PySem.W.codeIn K xcd10 "InvalidNumber.__init__" = true)
    (xf10_79 : PySem.W.findIn K (.ref C10) (fnm 79) = some none)
    (z_ValueError : PySem.W.nsIn K mainGlobals "ValueError" = some none)
    (v_DIGITS : PySem.W.nsIn K mainGlobals "DIGITS" = some (some (.str "0123456789" tV_DIGITS)))
    (v_MOST_DIGITS : PySem.W.nsIn K mainGlobals "MOST_DIGITS" = some (some (.int 12 tV_MOST_DIGITS)))
    (v_LONG : PySem.W.nsIn K mainGlobals "LONG" = some (some (.int 10000000000000000000000000000000000000000000000000000000000000000000000000000000000000000000000000000000000000000000000000000000000000000000000000000000000000000000000000000000000000000000000000000000000000000000000000000000000000000000000000000000000000000000000000000000000000000000000000000000000000000000000000000000000000000000000000000000000000000000000000000000000000000000000000000000000000000000000000000000000000000000000000000000000000000000000000000000000000000000000000000000000000000000000000000000000000000000000000000000000000000000000000000000000000000000000000000000000000000000000000000000000000000000000000000000000000000000000000000000000000000000000000000000000000000000000000000000000000000000000000000000000000000000000000000000000000000000000000000000000000000000000000000000000000000000000000000000000000000000000000000000000000000000000000000000000000000000000000000000000000000000000000000000000000000000000000000000000000000000000000000000000000000000000000000000000000000 tV_LONG)))
    (z_gcd : PySem.W.nsIn K mainGlobals "gcd" = some (some (.builtin "math.gcd")))
    (z_abs : PySem.W.nsIn K mainGlobals "abs" = some none)
    (z_all : PySem.W.nsIn K mainGlobals "all" = some none)
    (z_bool : PySem.W.nsIn K mainGlobals "bool" = some none)
    (z_int : PySem.W.nsIn K mainGlobals "int" = some none)
    (z_isinstance : PySem.W.nsIn K mainGlobals "isinstance" = some none)
    (z_len : PySem.W.nsIn K mainGlobals "len" = some none)
    (z_list : PySem.W.nsIn K mainGlobals "list" = some none)
    (z_range : PySem.W.nsIn K mainGlobals "range" = some none)
    (z_str : PySem.W.nsIn K mainGlobals "str" = some none)
    (z_tuple : PySem.W.nsIn K mainGlobals "tuple" = some none)
    (s9_0 : PySem.W.subIn K (.ref C9) (.ref C0) = some true)
    (hd0 : PySem.W.hasDictIn K C0 = true)
    (s10_0 : PySem.W.subIn K (.ref C10) (.ref C0) = some true)
    (t9_9 : PySem.W.kitOne K (.ref C9) (.ref C9) = some true)
    (e9g : PySem.W.findIn K (.ref C9) "__getattribute__" = some (some (.builtin "BaseException.__getattribute__")))
    (e9k : PySem.W.findIn K (.ref C9) "__getattr__" = some none)
    (hd9 : PySem.W.hasDictIn K C9 = true)
    (e9a : PySem.W.findIn K (.ref C9) "__class__" = some (some (.builtin "object.__class__")))
    (e9m : PySem.W.mroIn K C9 (.type "object") = some true)
    (t9_10 : PySem.W.kitOne K (.ref C9) (.ref C10) = some false)
    (t9_100 : PySem.W.kitOne K (.ref C9) (.type "ValueError") = some true)
    (t10_9 : PySem.W.kitOne K (.ref C10) (.ref C9) = some false)
    (e10g : PySem.W.findIn K (.ref C10) "__getattribute__" = some (some (.builtin "BaseException.__getattribute__")))
    (e10k : PySem.W.findIn K (.ref C10) "__getattr__" = some none)
    (hd10 : PySem.W.hasDictIn K C10 = true)
    (e10a : PySem.W.findIn K (.ref C10) "__class__" = some (some (.builtin "object.__class__")))
    (e10m : PySem.W.mroIn K C10 (.type "object") = some true)
    (t10_10 : PySem.W.kitOne K (.ref C10) (.ref C10) = some true)
    (t10_100 : PySem.W.kitOne K (.ref C10) (.type "ValueError") = some true)
    (en : PySem.W.specialIn K (.builtin "object.__class__") "__get__" = some (some (.builtin "getset_descriptor.__get__")))
    (et : PySem.W.takesIn K (.builtin "object.__class__") = some true) : ∃ cv df f fd, pg.defs[12]? = some df ∧ PgOk pg K mg cv ∧ DfOk K mg "law" 1 [] df f fd ["_law_script"] :=
  ⟨cvL C0 C9 C10, _, f12, _, rfl, ⟨glAll_of (l := gl) ⟨trivial, trivial, trivial, trivial, trivial, trivial, trivial, trivial, trivial, trivial, trivial, trivial, trivial, ⟨C0, rfl, PySem.W.mg_of X G ca0, cb0, cc0, cd1000, ce0⟩, xcls1 (st := st_TooLarge) (C := C9) X G rfl ⟨ca9, cb9, ⟨⟨_, _, _, _, _, _, _, _, _, _, _, _, _, _, _, xlc9, xr9⟩, xsa9, cd1009, ce9, cb9⟩, xi9, xt9, ⟨_, _, _, _, _, _, _, _, _, rfl, xw9, xc9⟩, sc_TooLarge, fun us hl => match us, hl with | [_, _], _ => rfl⟩ xf9_48 rfl (by decide) (by decide), xcls1 (st := st_InvalidNumber) (C := C10) X G rfl ⟨ca10, cb10, ⟨⟨_, _, _, _, _, _, _, _, _, _, _, _, _, _, _, xlc10, xr10⟩, xsa10, cd1010, ce10, cb10⟩, xi10, xt10, ⟨_, _, _, _, _, _, _, _, _, rfl, xw10, xc10⟩, sc_InvalidNumber, fun us hl => match us, hl with | [_, _], _ => rfl⟩ xf10_79 rfl (by decide) (by decide), ⟨_, rfl, PySem.W.mg_none_of X G z_ValueError, by rfl⟩, ⟨_, (.str "0123456789"), PySem.W.mg_of X G v_DIGITS, ⟨_, rfl⟩, fun _ _ _ => (.str _)⟩, ⟨_, (.int 12), PySem.W.mg_of X G v_MOST_DIGITS, ⟨_, rfl⟩, fun _ _ _ => (.int _)⟩, ⟨_, (.int 10000000000000000000000000000000000000000000000000000000000000000000000000000000000000000000000000000000000000000000000000000000000000000000000000000000000000000000000000000000000000000000000000000000000000000000000000000000000000000000000000000000000000000000000000000000000000000000000000000000000000000000000000000000000000000000000000000000000000000000000000000000000000000000000000000000000000000000000000000000000000000000000000000000000000000000000000000000000000000000000000000000000000000000000000000000000000000000000000000000000000000000000000000000000000000000000000000000000000000000000000000000000000000000000000000000000000000000000000000000000000000000000000000000000000000000000000000000000000000000000000000000000000000000000000000000000000000000000000000000000000000000000000000000000000000000000000000000000000000000000000000000000000000000000000000000000000000000000000000000000000000000000000000000000000000000000000000000000000000000000000000000000000000000000000000000000000000), PySem.W.mg_of X G v_LONG, ⟨_, rfl⟩, fun _ _ _ => (.int _)⟩, PySem.W.mg_of X G z_gcd, PySem.W.mg_none_of X G z_abs, PySem.W.mg_none_of X G z_all, PySem.W.mg_none_of X G z_bool, PySem.W.mg_none_of X G z_int, PySem.W.mg_none_of X G z_isinstance, PySem.W.mg_none_of X G z_len, PySem.W.mg_none_of X G z_list, PySem.W.mg_none_of X G z_range, PySem.W.mg_none_of X G z_str, PySem.W.mg_none_of X G z_tuple, trivial⟩, tbAll_of (l := [(9, 0, true), (10, 0, true)]) ⟨PySem.W.exm_ref cd1000 hd0 ce0 s9_0, PySem.W.exm_ref cd1000 hd0 ce0 s10_0, trivial⟩, tbAll_of (l := [(9, 9, true), (9, 10, false), (9, 100, true), (10, 9, false), (10, 10, true), (10, 100, true)]) ⟨⟨t9_9, C9, rfl, ⟨e9g, e9k, cd1009, hd9, e9a, en, et, e9m⟩⟩, ⟨t9_10, C9, rfl, ⟨e9g, e9k, cd1009, hd9, e9a, en, et, e9m⟩⟩, ⟨t9_100, C9, rfl, ⟨e9g, e9k, cd1009, hd9, e9a, en, et, e9m⟩⟩, ⟨t10_9, C10, rfl, ⟨e10g, e10k, cd1010, hd10, e10a, en, et, e10m⟩⟩, ⟨t10_10, C10, rfl, ⟨e10g, e10k, cd1010, hd10, e10a, en, et, e10m⟩⟩, ⟨t10_100, C10, rfl, ⟨e10g, e10k, cd1010, hd10, e10a, en, et, e10m⟩⟩, trivial⟩,
    dfAll_of (l := gl) ⟨(let ⟨fd, F⟩ := df_mk (ps := ["text"]) X G a0 l0 c0 k0 sc_is_number_text (fun _ _ _ _ _ _ us hl => match us, hl with | [_], _ => rfl); ⟨_, f0, fd, _, rfl, F⟩),
      (let ⟨fd, F⟩ := df_mk (ps := ["text"]) X G a1 l1 c1 k1 sc_read_ratio (fun _ _ _ _ _ _ us hl => match us, hl with | [_], _ => rfl); ⟨_, f1, fd, _, rfl, F⟩),
      (let ⟨fd, F⟩ := df_mk (ps := ["a"]) X G a2 l2 c2 k2 sc_show_ratio (fun _ _ _ _ _ _ us hl => match us, hl with | [_], _ => rfl); ⟨_, f2, fd, _, rfl, F⟩),
      (let ⟨fd, F⟩ := df_mk (ps := ["_law_script"]) X G a3 l3 c3 k3 sc__law_deck (fun _ _ _ _ _ _ us hl => match us, hl with | [_], _ => rfl); ⟨_, f3, fd, _, rfl, F⟩),
      (let ⟨fd, F⟩ := df_mk (ps := ["_law_deck_here", "_law_most"]) X G a4 l4 c4 k4 sc__law_draw (fun _ _ _ _ _ _ us hl => match us, hl with | [_, _], _ => rfl); ⟨_, f4, fd, _, rfl, F⟩),
      (let ⟨fd, F⟩ := df_mk (ps := ["_law_actual", "_law_due"]) X G a5 l5 c5 k5 sc__law_same (fun _ _ _ _ _ _ us hl => match us, hl with | [_, _], _ => rfl); ⟨_, f5, fd, _, rfl, F⟩),
      (let ⟨fd, F⟩ := df_mk (ps := ["_law_a", "_law_b"]) X G a6 l6 c6 k6 sc__law_gcd (fun _ _ _ _ _ _ us hl => match us, hl with | [_, _], _ => rfl); ⟨_, f6, fd, _, rfl, F⟩),
      (let ⟨fd, F⟩ := df_mk (ps := ["_law_p", "_law_q"]) X G a7 l7 c7 k7 sc__law_ratio (fun _ _ _ _ _ _ us hl => match us, hl with | [_, _], _ => rfl); ⟨_, f7, fd, _, rfl, F⟩),
      (let ⟨fd, F⟩ := df_mk (ps := ["_law_a"]) X G a8 l8 c8 k8 sc__law_text (fun _ _ _ _ _ _ us hl => match us, hl with | [_], _ => rfl); ⟨_, f8, fd, _, rfl, F⟩),
      (let ⟨fd, F⟩ := df_mk (ps := ["_law_text_here"]) X G a9 l9 c9 k9 sc__law_refused (fun _ _ _ _ _ _ us hl => match us, hl with | [_], _ => rfl); ⟨_, f9, fd, _, rfl, F⟩),
      (let ⟨fd, F⟩ := df_mk (ps := ["_law_p", "_law_q"]) X G a10 l10 c10 k10 sc__law_long (fun _ _ _ _ _ _ us hl => match us, hl with | [_, _], _ => rfl); ⟨_, f10, fd, _, rfl, F⟩),
      (let ⟨fd, F⟩ := df_mk (ps := ["_law_many"]) X G a11 l11 c11 k11 sc__law_power (fun _ _ _ _ _ _ us hl => match us, hl with | [_], _ => rfl); ⟨_, f11, fd, _, rfl, F⟩),
      (let ⟨fd, F⟩ := df_mk (ps := ["_law_script"]) X G a12 l12 c12 k12 sc_law (fun _ _ _ _ _ _ us hl => match us, hl with | [_], _ => rfl); ⟨_, f12, fd, _, rfl, F⟩),
      trivial⟩, clAll_of (l := gl) trivial, meAll_of (l := ms) trivial, naAll_of (l := insL) ⟨(fun C e => by cases e), (fun C e => by cases e), (fun C e => by cases e), (fun C e => by cases e), (fun C e => by cases e), (fun C e => by cases e), (fun C e => by cases e), (fun C e => by cases e), (fun C e => by cases e), (fun C e => by cases e), (fun C e => by cases e), (fun C e => by cases e), (fun C e => by cases e), (fun C e => by cases e), (fun C e => by cases e), (fun C e => by cases e), (fun C e => by cases e), trivial⟩, xfAll_of (l := [(9, [48]), (10, [79])]) ⟨⟨C9, rfl, ⟨e9g, e9k, cd1009, hd9⟩, ⟨xf9_48, trivial⟩⟩, ⟨C10, rfl, ⟨e10g, e10k, cd1010, hd10⟩, ⟨xf10_79, trivial⟩⟩, trivial⟩⟩,
    (df_mk (ps := ["_law_script"]) X G a12 l12 c12 k12 sc_law (fun _ _ _ _ _ _ us hl => match us, hl with | [_], _ => rfl)).choose_spec⟩
end Lw
open PySem PySem.W PyProof.Rows
set_option maxHeartbeats 0 in
theorem PySem.Challenge.cw_unbent_k04_texts_of_fractions_holds : PySem.Challenge.rw_unbent_k04_texts_of_fractions.Holds := by
  w_on; o_law; k_head; (case hw => w_witness2)
  k_fill
  refine Mn.walk_mn (l := PySem.Challenge.rw_unbent_k04_texts_of_fractions) (n := 63) (k := 3) (id := 12) (x := "_law_script") (P := Lw.pg) rfl (by decide) rfl ⟨rfl, by decide, by decide⟩ (fun w h Y => PySem.W.kIn_of Y) (fun ns h1 h2 => Lw.law_true ns h1 h2) ?F
  intro w mg h X G
  refine' Lw.pg_mk X G ?a0 ?l0 ?c0 ?k0 ?a1 ?l1 ?c1 ?k1 ?a2 ?l2 ?c2 ?k2 ?a3 ?l3 ?c3 ?k3 ?a4 ?l4 ?c4 ?k4 ?a5 ?l5 ?c5 ?k5 ?a6 ?l6 ?c6 ?k6 ?a7 ?l7 ?c7 ?k7 ?a8 ?l8 ?c8 ?k8 ?a9 ?l9 ?c9 ?k9 ?a10 ?l10 ?c10 ?k10 ?a11 ?l11 ?c11 ?k11 ?a12 ?l12 ?c12 ?k12 ?ca0 ?cb0 ?cc0 ?cd1000 ?ce0 ?ca9 ?cb9 ?xlc9 ?xr9 ?xsa9 ?cd1009 ?ce9 ?xi9 ?xt9 ?xw9 ?xc9 ?xf9_48 ?ca10 ?cb10 ?xlc10 ?xr10 ?xsa10 ?cd1010 ?ce10 ?xi10 ?xt10 ?xw10 ?xc10 ?xf10_79 ?z_ValueError ?v_DIGITS ?v_MOST_DIGITS ?v_LONG ?z_gcd ?z_abs ?z_all ?z_bool ?z_int ?z_isinstance ?z_len ?z_list ?z_range ?z_str ?z_tuple ?s9_0 ?hd0 ?s10_0 ?t9_9 ?e9g ?e9k ?hd9 ?e9a ?e9m ?t9_10 ?t9_100 ?t10_9 ?e10g ?e10k ?hd10 ?e10a ?e10m ?t10_10 ?t10_100 ?en ?et
  (case a0 => k_is)
  (case l0 => k_is)
  (case c0 => k_is)
  (case k0 => k_is)
  (case a1 => k_is)
  (case l1 => k_is)
  (case c1 => k_is)
  (case k1 => k_is)
  (case a2 => k_is)
  (case l2 => k_is)
  (case c2 => k_is)
  (case k2 => k_is)
  (case a3 => k_is)
  (case l3 => k_is)
  (case c3 => k_is)
  (case k3 => k_is)
  (case a4 => k_is)
  (case l4 => k_is)
  (case c4 => k_is)
  (case k4 => k_is)
  (case a5 => k_is)
  (case l5 => k_is)
  (case c5 => k_is)
  (case k5 => k_is)
  (case a6 => k_is)
  (case l6 => k_is)
  (case c6 => k_is)
  (case k6 => k_is)
  (case a7 => k_is)
  (case l7 => k_is)
  (case c7 => k_is)
  (case k7 => k_is)
  (case a8 => k_is)
  (case l8 => k_is)
  (case c8 => k_is)
  (case k8 => k_is)
  (case a9 => k_is)
  (case l9 => k_is)
  (case c9 => k_is)
  (case k9 => k_is)
  (case a10 => k_is)
  (case l10 => k_is)
  (case c10 => k_is)
  (case k10 => k_is)
  (case a11 => k_is)
  (case l11 => k_is)
  (case c11 => k_is)
  (case k11 => k_is)
  (case a12 => k_is)
  (case l12 => k_is)
  (case c12 => k_is)
  (case k12 => k_is)
  (case ca0 => k_is)
  (case cb0 => k_is)
  (case cc0 => k_exc)
  (case cd1000 => k_is)
  (case ce0 => k_is)
  (case ca9 => k_is)
  (case cb9 => k_is)
  (case xlc9 => k_is)
  (case xr9 => kernel_rfl)
  (case xsa9 => k_is)
  (case cd1009 => k_is)
  (case ce9 => k_is)
  (case xi9 => k_is)
  (case xt9 => k_is)
  (case xw9 => k_is)
  (case xc9 => k_is)
  (case xf9_48 => k_is)
  (case ca10 => k_is)
  (case cb10 => k_is)
  (case xlc10 => k_is)
  (case xr10 => kernel_rfl)
  (case xsa10 => k_is)
  (case cd1010 => k_is)
  (case ce10 => k_is)
  (case xi10 => k_is)
  (case xt10 => k_is)
  (case xw10 => k_is)
  (case xc10 => k_is)
  (case xf10_79 => k_is)
  (case z_ValueError => k_is)
  (case v_DIGITS => k_is)
  (case v_MOST_DIGITS => k_is)
  (case v_LONG => k_is)
  (case z_gcd => k_is)
  (case z_abs => k_is)
  (case z_all => k_is)
  (case z_bool => k_is)
  (case z_int => k_is)
  (case z_isinstance => k_is)
  (case z_len => k_is)
  (case z_list => k_is)
  (case z_range => k_is)
  (case z_str => k_is)
  (case z_tuple => k_is)
  (case s9_0 => k_is)
  (case hd0 => k_is)
  (case s10_0 => k_is)
  (case t9_9 => first | k_is | kernel_rfl)
  (case e9g => k_is)
  (case e9k => k_is)
  (case hd9 => k_is)
  (case e9a => k_is)
  (case e9m => k_is)
  (case t9_10 => first | k_is | kernel_rfl)
  (case t9_100 => first | k_is | kernel_rfl)
  (case t10_9 => first | k_is | kernel_rfl)
  (case e10g => k_is)
  (case e10k => k_is)
  (case hd10 => k_is)
  (case e10a => k_is)
  (case e10m => k_is)
  (case t10_10 => first | k_is | kernel_rfl)
  (case t10_100 => first | k_is | kernel_rfl)
  (case en => k_is)
  (case et => k_is)
