import PyProof.Rows.All
import HandS.Ends
import PyProof.Rows.Digits
import HandS.ForMost
import HandS.ForExc
import HandS.Wide
import HandS.Gcd
import HandS.More
import HandS.Deep
import HandS.SetFor
import HandS.StrMore
import HandS.TupAny
import HandS.Zip
import HandS.Conv
import HandS.Rev
import PyProof.Rows.StrOr
import HandS.ExcCtx
import HandS.IsInst
import HandS.TryOnly
import HandS.Walk
import KE.GoesMore
import HandS.Flow
import HandS.HeadWalk
import HandS.MakeKwOnly
import HandS.ExcInit
import HandS.ExcField
import HandS.ExcIs
import HandS.Strs
import HandS.SetKeys
import HandS.TryMany
import HandS.Dict
import HandS.Property
import HandS.HotCalls
import HandS.Defaults
import HandS.EndBits
import PySem.Challenge.RW_unbent_k19_profiles
set_option Elab.async false
set_option linter.all false
set_option maxRecDepth 100000
set_option maxHeartbeats 4000000
namespace Mn
open PySem L2 PySem.Spec PyProof.Rows
section
variable {P : Program} {w : World} {K : PySem.W.Frag} {mg mb : Str → Option Value} {CX : CXT} {k : Nat} {fa a : Addr} {fd : FuncData} {x : Str} {sp : Sp} {st : Shared} {vs : List Value} {ns : List Int}
theorem law_under {H : Hp} (kx : K.In st.heap) (n1 : st.heap.Ns mainGlobals mg) (n2 : st.heap.Ns builtinsNs mb) (bb : ∀ y : Str, y ≠ "__name__" → mb y = bootBuiltins y) (nl : st.heap.NoLimit) (nd : st.heap.NoDigits) (ng : st.gens = #[])
    (oa : st.heap.get? a = some { cls := .type "list", data := .seq vs.toArray }) (rm : Room k callerA) (F : ∀ base : Heap, K.In base → base.NoDigits → FnOk P w K mg base CX k fa fd [x] sp) (bd : ∀ (s : Shared) (u : Value), BindsTo s fd ⟨[u], []⟩ [(x, u)])
    (only : Only H) (q : sp [.ref a] H (fun v _ => v = .bl true) fun _ _ _ => False) (hok : HOk P w H st.heap) (alone : ∀ b, b ≠ a → H b = none) (apart : ∀ o, K.lookup a = some o → H a = none) (cx : ∀ e s', CX [] H st (fun _ _ _ => False) e s' → False) :
    codeAny (model P w) callerA (.call (.ref fa) ⟨[.ref a], []⟩) (fun r s' => r = .ok (.ret (.bool true)) ∧ OldK st.heap s'.heap ∧ s'.os = st.os ∧ AllBare s'.gens) st := by
  have dicts : ∀ {b : Addr} {m : Str → Option Value}, st.heap.Ns b m → (hidT st.heap H).Ns b m := by
    rintro b m ⟨o, es, ep, g, d, r⟩
    refine ⟨o, es, ep, hidT_get g (alone b ?_), d, r⟩
    rintro rfl
    rw [oa] at g
    cases g
    cases d
  have kin : K.In (hidT st.heap H) := fun b o l => hidT_get (kx b o l) (by
    by_cases e : b = a
    · subst e; exact apart o l
    · exact alone b e)
  have lim : (hidT st.heap H).NoLimit := nl.imp fun _ z => ⟨dicts z.1, z.2⟩
  have dig : (hidT st.heap H).NoDigits := nd.imp fun _ z => ⟨dicts z.1, z.2⟩
  have env : Env0 P w K mg (hidT st.heap H) callerA [] st H := ⟨rfl, ⟨kin, dicts n1, ⟨mb, dicts n2, bb⟩, lim⟩, fun _ _ z => of_hidT z, Nat.le_of_eq (hidT_size _ _), trivial, fun _ z => absurd z List.not_mem_nil, hok, .of_eq ng⟩
  refine codeAny_mono ((F _ kin dig).run callerA [] st H ⟨[.ref a], []⟩ [.ref a] [.ref a] _ _ rm env (bd st (.ref a)) (.cons rfl .nil) q) fun r s' z => ?_
  match r, z with
  | .error e, z => exact (cx e s' z).elim
  | .ok .next, z => exact z.elim
  | .ok .brk, z => exact z.elim
  | .ok .cont, z => exact z.elim
  | .ok (.ret u), ⟨v, H', os, bare, un, hok', rv, ev⟩ =>
    cases (show v = V.bl true from ev)
    cases (show u = Value.bool true from rv)
    refine ⟨rfl, OldK.of_keep fun b o g => ?_, os, bare⟩
    rcases only b with n | ⟨ob, l, n⟩
    · exact un.keep b o g n (fun z => nomatch z) List.not_mem_nil
    · have g1 := (hok b _ n).1
      rw [g] at g1
      cases g1
      exact (hok' b _ (un.frzs b o _ n)).1
theorem law_callD (kx : K.In st.heap) (n1 : st.heap.Ns mainGlobals mg) (n2 : st.heap.Ns builtinsNs mb) (bb : ∀ y : Str, y ≠ "__name__" → mb y = bootBuiltins y) (nl : st.heap.NoLimit) (nd : st.heap.NoDigits) (ng : st.gens = #[])
    (oa : st.heap.get? a = some { cls := .type "list", data := .seq vs.toArray }) (hi : IntsAre vs ns) (hl : ns.length ≤ sizeLine) (rm : Room k callerA) (F : ∀ base : Heap, K.In base → base.NoDigits → FnOk P w K mg base CX k fa fd [x] sp) (bd : ∀ (s : Shared) (u : Value), BindsTo s fd ⟨[u], []⟩ [(x, u)])
    (hsp : ∀ H : Hp, Only H → SqL K H a (ns.map V.int) → sp [.ref a] H (fun v _ => v = .bl true) fun _ _ _ => False) (cx : ∀ H e s', CX [] H st (fun _ _ _ => False) e s' → False) :
    codeAny (model P w) callerA (.call (.ref fa) ⟨[.ref a], []⟩) (fun r s' => r = .ok (.ret (.bool true)) ∧ OldK st.heap s'.heap ∧ s'.os = st.os ∧ AllBare s'.gens) st := by
  by_cases own : ∃ o, K.lookup a = some o
  · obtain ⟨o, own⟩ := own
    have e := kx a o own
    rw [oa] at e
    cases e
    have none : Only fun _ => none := fun _ => .inl rfl
    exact law_under kx n1 n2 bb nl nd ng oa rm F bd none (hsp _ none (.inr ⟨_, vs.toArray, _, own, rfl, rfl, rfl, by rw [List.size_toArray, hi.length]; exact hl, by simpa using vals_ints hi⟩)) (fun _ _ z => nomatch z) (fun _ _ => rfl) (fun _ _ => rfl) (cx _)
  · have at_ : ∀ b, (if b = a then some (HO.frz { cls := .type "list", data := .seq vs.toArray } (.lst (ns.map V.int))) else none) = none ∨ b = a := fun b => by
      by_cases e : b = a
      · exact .inr e
      · exact .inl (if_neg e)
    have frz : Only fun b => if b = a then some (HO.frz { cls := .type "list", data := .seq vs.toArray } (.lst (ns.map V.int))) else none := fun b => (at_ b).imp id fun e => ⟨_, _, if_pos e⟩
    refine law_under kx n1 n2 bb nl nd ng oa rm F bd frz (hsp _ frz (.inl (.inr ⟨_, if_pos rfl⟩))) (fun b u z => ?_) (fun b e => if_neg e) (fun o l => absurd ⟨o, l⟩ own) (cx _)
    rcases at_ b with e | rfl
    · exact absurd (e.symm.trans z) (fun y => nomatch y)
    · cases (if_pos rfl).symm.trans z
      exact ⟨oa, by rw [List.length_map]; exact hl, vs, _, vals_ints hi, oa⟩
end
end Mn
namespace Mn
open PySem
inductive D where
  | non | bl (b : Bool) | int (i : Int) | str (s : Str) | tup (ds : List D) | ref (n : Nat) | rg (lo hi : Int)
  deriving Inhabited
inductive O where
  | lst (ds : List D)
  | frz (ds : List D)
  | ins (c : Nat) (fs : List (Nat × D))
  deriving Inhabited
abbrev Hh := List O
structure Xc where
  cls : Nat
  fs : List (Nat × D) := []
inductive R (α : Type) where
  | ok (a : α) (h : Hh) | exc (x : Xc) (h : Hh) | stuck
def R.bind {α β : Type} : R α → (α → Hh → R β) → R β
  | .ok a h, f => f a h
  | .exc x h, _ => .exc x h
  | .stuck, _ => .stuck
inductive F where
  | nx | bk | ct | rt (d : D)
abbrev Ev := List (Option D)
inductive RS where
  | go (f : F) (e : Ev) (h : Hh) | exc (x : Xc) (e : Ev) (h : Hh) | stuck
def R.toS {α : Type} : R α → Ev → (α → Hh → RS) → RS
  | .ok a h, _, f => f a h
  | .exc x h, e, _ => .exc x e h
  | .stuck, _, _ => .stuck
abbrev ED := Ev → Hh → R D
abbrev TD := Ev → Hh → R Bool
abbrev AD := Ev → Hh → R (List D)
abbrev SD := Ev → Hh → RS
abbrev FD := List D → Hh → R D
def lstAt (h : Hh) (n : Nat) : Option (List D) := match h[n]? with
  | some (.lst ds) => some ds
  | some (.frz ds) => some ds
  | _ => none
abbrev szl : Nat := 16777216
def allS (f : D → Option PyData) : List D → Option (List PyData)
  | [] => some []
  | d :: ds => match f d, allS f ds with
    | some x, some xs => some (x :: xs)
    | _, _ => none
def toPD (h : Hh) : Nat → D → Option PyData
  | _, .non => some .none
  | _, .bl b => some (.bool b)
  | _, .int i => some (.int i)
  | _, .str s => some (.str s)
  | _, .rg _ _ => none
  | 0, _ => none
  | k + 1, .tup ds => (allS (toPD h k) ds).map .tuple
  | k + 1, .ref n => match lstAt h n with
    | some ds => (allS (toPD h k) ds).map .list
    | none => none
abbrev cMul (i j : Int) : Prop := i.natAbs.log2 + j.natAbs.log2 < 100000000
abbrev cDiv (j : Int) : Prop := j ≠ 0 ∧ j.natAbs.log2 < 9000
abbrev cPow (i j : Int) : Prop := 0 ≤ j ∧ j ≤ 1000000 ∧ i.natAbs < 2 ^ 64
def repS (a : Str) (k : Nat) : Str := ⟨(List.replicate k a.cps).foldl (· ++ ·) #[]⟩
def bop : Operator → D → D → Hh → R D
  | .Add, .int i, .int j, h => .ok (.int (i + j)) h
  | .Sub, .int i, .int j, h => .ok (.int (i - j)) h
  | .Mult, .int i, .int j, h => if cMul i j then .ok (.int (i * j)) h else .stuck
  | .FloorDiv, .int i, .int j, h => if cDiv j then .ok (.int (i.fdiv j)) h else .stuck
  | .Mod, .int i, .int j, h => if j ≠ 0 then .ok (.int (i.fmod j)) h else .stuck
  | .Pow, .int i, .int j, h => if cPow i j then .ok (.int (i ^ j.toNat)) h else .stuck
  | .LShift, .int i, .int j, h => if cPow i j then .ok (.int (i * 2 ^ j.toNat)) h else .stuck
  | .RShift, .int i, .int j, h => if 0 ≤ j then .ok (.int (i / 2 ^ j.toNat)) h else .stuck
  | .BitAnd, .int i, .int j, h => .ok (.int (Builtin.bitAnd i j)) h
  | .BitOr, .int i, .int j, h => .ok (.int (Builtin.bitOr i j)) h
  | .Add, .str a, .str b, h => if a.length + b.length ≤ szl then .ok (.str (a ++ b)) h else .stuck
  | .Add, .tup a, .tup b, h => if a.length + b.length ≤ szl then .ok (.tup (a ++ b)) h else .stuck
  | .Add, .ref m, .ref n, h => match h[m]?, h[n]? with
    | some (.lst a), some (.lst b) => if a.length + b.length ≤ szl then .ok (.ref h.length) (h ++ [.lst (a ++ b)]) else .stuck
    | _, _ => .stuck
  | .Mult, .ref m, .int k, h => match h[m]? with
    | some (.lst a) => if -(2 ^ 63) ≤ k ∧ k < 2 ^ 63 ∧ a.length * k.toNat ≤ szl then .ok (.ref h.length) (h ++ [.lst (List.replicate k.toNat a).flatten]) else .stuck
    | _ => .stuck
  | .Mult, .str a, .int k, h => if 2 ≤ k ∧ k ≤ 10000 ∧ 1 ≤ a.length ∧ a.length ≤ 1000 then .ok (.str (repS a k.toNat)) h else .stuck
  | _, _, _, _ => .stuck
def uop : UnaryOp → D → Hh → R D
  | .USub, .int i, h => .ok (.int (-i)) h
  | _, _, _ => .stuck
def flatD : D → Bool
  | .non | .bl _ | .int _ | .str _ => true
  | _ => false
def eqF : D → D → Bool
  | .non, .non => true
  | .bl a, .bl b => a == b
  | .bl a, .int j => (if a then 1 else 0) == j
  | .int i, .bl b => i == (if b then 1 else 0)
  | .int i, .int j => i == j
  | .str a, .str b => a == b
  | _, _ => false
def eqD (h : Hh) (x y : D) : Option Bool := match x, y with
  | .int i, .int j => some (decide (i = j))
  | .str a, .str b => some (decide (a = b))
  | .bl a, .bl b => some (decide (a = b))
  | x, y => match toPD h 12 x, toPD h 12 y with
    | some a, some b => if SeqAt.shaped a = true ∧ SeqAt.shaped b = true then some (PyData.eqv a b) else none
    | _, _ => none
def inD (h : Hh) (x : D) (ys : List D) : Option Bool :=
  if flatD x = true ∧ ys.all flatD = true then some (ys.any fun y => eqF y x) else none
def inS (h : Hh) (x c : D) : Option Bool := match toPD h 12 c, toPD h 12 x with
  | some (.list ps), some p => if SeqAt.shaped p = true ∧ SeqAt.shaped (.list ps) = true then some (ps.any fun z => PyData.eqv z p) else none
  | some (.tuple ps), some p => if SeqAt.shaped p = true ∧ SeqAt.shaped (.tuple ps) = true then some (ps.any fun z => PyData.eqv z p) else none
  | _, _ => none
def inA (h : Hh) (x c : D) (ys : List D) : Option Bool := match inD h x ys with
  | some b => some b
  | none => inS h x c
def isNon : D → Bool
  | .non => true
  | _ => false
def ofB (o : Option Bool) (f : Bool → Bool) (h : Hh) : R D := match o with
  | some b => .ok (.bl (f b)) h
  | none => .stuck
def bcmp : CmpOp → D → D → Hh → R D
  | .Eq, x, y, h => ofB (eqD h x y) id h
  | .NotEq, x, y, h => ofB (eqD h x y) not h
  | .Lt, .int i, .int j, h => .ok (.bl (decide (i < j))) h
  | .LtE, .int i, .int j, h => .ok (.bl (decide (i ≤ j))) h
  | .Gt, .int i, .int j, h => .ok (.bl (decide (j < i))) h
  | .GtE, .int i, .int j, h => .ok (.bl (decide (j ≤ i))) h
  | .Is, x, .non, h => .ok (.bl (isNon x)) h
  | .IsNot, x, .non, h => .ok (.bl (!isNon x)) h
  | .In, .str a, .str b, h => .ok (.bl (!(Builtin.Str.occurrences b a 0 b.length 1).isEmpty)) h
  | .NotIn, .str a, .str b, h => .ok (.bl (!(!(Builtin.Str.occurrences b a 0 b.length 1).isEmpty))) h
  | .In, x, .ref n, h => match lstAt h n with
    | some ys => ofB (inA h x (.ref n) ys) id h
    | none => .stuck
  | .In, x, .tup ys, h => ofB (inA h x (.tup ys) ys) id h
  | .NotIn, x, .ref n, h => match lstAt h n with
    | some ys => ofB (inA h x (.ref n) ys) not h
    | none => .stuck
  | .NotIn, x, .tup ys, h => ofB (inA h x (.tup ys) ys) not h
  | .Is, .bl a, .bl b, h => .ok (.bl (a == b)) h
  | .IsNot, .bl a, .bl b, h => .ok (.bl (!(a == b))) h
  | .LtE, .str a, .str b, h => .ok (.bl (!decide (b.cps.toList < a.cps.toList))) h
  | .Lt, .str a, .str b, h => .ok (.bl (decide (a.cps.toList < b.cps.toList))) h
  | _, _, _, _ => .stuck
def truth : D → Hh → Option Bool
  | .non, _ => some false
  | .bl b, _ => some b
  | .int i, _ => some (i != 0)
  | .ref n, h => (lstAt h n).map fun ds => !ds.isEmpty
  | _, _ => none
def ixD : D → D → Hh → R D
  | .tup ds, .int i, h => match L2.atI ds i with
    | some d => .ok d h
    | none => .stuck
  | .ref n, .int i, h => match lstAt h n with
    | some ds => match L2.atI ds i with
      | some d => .ok d h
      | none => .stuck
    | none => .stuck
  | .str z, .int i, h => if z.length ≤ szl then match L2.atI z.cps.toList i with
      | some c => .ok (.str ⟨#[c]⟩) h
      | none => .stuck
    else .stuck
  | _, _, _ => .stuck
def setD : D → D → D → Hh → R Unit
  | .ref n, .int i, v, h => match h[n]? with
    | some (.lst ds) => match L2.ixN ds.length i with
      | some j => .ok () (h.set n (.lst (ds.set j v)))
      | none => .stuck
    | _ => .stuck
  | _, _, _, _ => .stuck
def dK : ED := fun _ _ => .stuck
def dC (d : D) : ED := fun _ h => .ok d h
def dV (i : Nat) : ED := fun e h => match e[i]? with
  | some (some d) => .ok d h
  | _ => .stuck
def dB (op : Operator) (a b : ED) : ED := fun e h => (a e h).bind fun x h1 => (b e h1).bind fun y h2 => bop op x y h2
def dU (op : UnaryOp) (a : ED) : ED := fun e h => (a e h).bind fun x h1 => uop op x h1
def dCmp (op : CmpOp) (a b : ED) : ED := fun e h => (a e h).bind fun x h1 => (b e h1).bind fun y h2 => bcmp op x y h2
def blOf (d : D) (h : Hh) (k : Bool → Hh → R α) : R α := match d with
  | .bl b => k b h
  | _ => .stuck
def dCh (op op' : CmpOp) (a b c : ED) : ED := fun e h => (a e h).bind fun x h1 => (b e h1).bind fun y h2 => (bcmp op x y h2).bind fun z h3 => blOf z h3 fun k h3 =>
  if k then (c e h3).bind fun w h4 => bcmp op' y w h4 else .ok (.bl false) h3
def dIf (t : TD) (a b : ED) : ED := fun e h => (t e h).bind fun k h1 => if k then a e h1 else b e h1
def dIx (a b : ED) : ED := fun e h => (a e h).bind fun x h1 => (b e h1).bind fun y h2 => ixD x y h2
def aN : AD := fun _ h => .ok [] h
def aC (a : ED) (r : AD) : AD := fun e h => (a e h).bind fun d h1 => (r e h1).bind fun ds h2 => .ok (d :: ds) h2
def dTup (a : AD) : ED := fun e h => (a e h).bind fun ds h1 => if ds.length ≤ szl then .ok (.tup ds) h1 else .stuck
def dLst (a : AD) : ED := fun e h => (a e h).bind fun ds h1 => if ds.length ≤ szl then .ok (.ref h1.length) (h1 ++ [.lst ds]) else .stuck
def dCall (f : FD) (a : AD) (dv : List D) : ED := fun e h => (a e h).bind fun ds h1 => f (ds ++ dv) h1
def tK : TD := fun _ _ => .stuck
def tE (a : ED) : TD := fun e h => (a e h).bind fun x h1 => match truth x h1 with
  | some b => .ok b h1
  | none => .stuck
def tB (a : ED) : TD := fun e h => (a e h).bind fun x h1 => blOf x h1 fun k h1 => .ok k h1
def tNot (t : TD) : TD := fun e h => (t e h).bind fun k h1 => .ok (!k) h1
def tAnd (t u : TD) : TD := fun e h => (t e h).bind fun k h1 => if k then u e h1 else .ok false h1
def tOr (t u : TD) : TD := fun e h => (t e h).bind fun k h1 => if k then .ok true h1 else u e h1
def tY : TD := fun _ h => .ok true h
structure Sq where
  items : List D
  src : List (Nat × List D)
abbrev ID := Ev → Hh → R Sq
def srcOk (src : List (Nat × List D)) (h : Hh) : Prop := ∀ p ∈ src, lstAt h p.1 = some p.2
def rngD (lo : Int) (n : Nat) : List D := (List.range n).map fun (i : Nat) => .int (lo + (i : Int))
def rng (lo hi : Int) (h : Hh) : R Sq := if -(2 ^ 62) ≤ lo ∧ lo < 2 ^ 62 ∧ -(2 ^ 62) ≤ hi ∧ hi < 2 ^ 62 then .ok ⟨rngD lo (hi - lo).toNat, []⟩ h else .stuck
def iSeq (a : ED) : ID := fun e h => (a e h).bind fun x h1 => match x with
  | .tup ds => .ok ⟨ds, []⟩ h1
  | .str z => .ok ⟨z.cps.toList.map fun c => .str ⟨#[c]⟩, []⟩ h1
  | .ref n => match lstAt h1 n with
    | some ds => .ok ⟨ds, [(n, ds)]⟩ h1
    | none => .stuck
  | .rg lo hi => rng lo hi h1
  | _ => .stuck
def iRange1 (a : ED) : ID := fun e h => (a e h).bind fun x h1 => match x with
  | .int hi => rng 0 hi h1
  | _ => .stuck
def iRange2 (a b : ED) : ID := fun e h => (a e h).bind fun x h1 => (b e h1).bind fun y h2 => match x, y with
  | .int lo, .int hi => rng lo hi h2
  | _, _ => .stuck
def iEnum (a : ED) : ID := fun e h => (a e h).bind fun x h1 => match x with
  | .tup ds => .ok ⟨ds.zipIdx.map fun p => .tup [.int (p.2 : Nat), p.1], []⟩ h1
  | .ref n => match lstAt h1 n with
    | some ds => .ok ⟨ds.zipIdx.map fun p => .tup [.int (p.2 : Nat), p.1], [(n, ds)]⟩ h1
    | none => .stuck
  | _ => .stuck
def iZip (a b : ED) : ID := fun e h => (a e h).bind fun x h1 => (b e h1).bind fun y h2 => match x, y with
  | .tup ds, .tup es => .ok ⟨List.zipWith (fun x y => .tup [x, y]) ds es, []⟩ h2
  | .ref m, .ref n => match lstAt h2 m, lstAt h2 n with
    | some ds, some es => .ok ⟨List.zipWith (fun x y => .tup [x, y]) ds es, [(m, ds), (n, es)]⟩ h2
    | _, _ => .stuck
  | _, _ => .stuck
def iRev (a : ED) : ID := fun e h => (a e h).bind fun x h1 => match x with
  | .ref n => match lstAt h1 n with
    | some ds => .ok ⟨ds.reverse, [(n, ds)]⟩ h1
    | none => .stuck
  | _ => .stuck
abbrev Tg := D → Ev → Option Ev
def gN (i : Nat) : Tg := fun d e => some (e.set i (some d))
def gT (is : List Nat) : Tg := fun d e => match d with
  | .tup ds => if ds.length = is.length then some ((is.zip ds).foldl (fun e p => e.set p.1 (some p.2)) e) else none
  | _ => none
def wipe (e : Ev) : List Nat → Ev
  | [] => e
  | v :: vs => (wipe e vs).set v none
open Classical in
noncomputable def lcGo (src : List (Nat × List D)) (tg : Tg) (t : TD) (el : ED) (e : Ev) (p : Nat) : List D → Hh → R D
  | [], h => if srcOk src h then .ok (.ref p) h else .stuck
  | d :: r, h => if srcOk src h then match tg d e with
      | some e1 => match t e1 h with
        | .ok false h1 => lcGo src tg t el e p r h1
        | .ok true h1 => match el e1 h1 with
          | .ok y h2 => match h2[p]? with
            | some (.lst acc) => if acc.length < szl then lcGo src tg t el e p r (h2.set p (.lst (acc ++ [y]))) else .stuck
            | _ => .stuck
          | _ => .stuck
        | _ => .stuck
      | none => .stuck
    else .stuck
noncomputable def dLc (it : ID) (tg : Tg) (t : TD) (el : ED) (own : List Nat) : ED := fun e h => (it e h).bind fun sq h1 => lcGo sq.src tg t el (wipe e own) h1.length sq.items (h1 ++ [.lst []])
abbrev GD := D → Ev → Hh → R Ev
def sK : SD := fun _ _ => .stuck
def sNx : SD := fun e h => .go .nx e h
def sBk : SD := fun e h => .go .bk e h
def sCt : SD := fun e h => .go .ct e h
def sEx (a : ED) : SD := fun e h => (a e h).toS e fun _ h1 => .go .nx e h1
def sRt (a : ED) : SD := fun e h => (a e h).toS e fun d h1 => .go (.rt d) e h1
def sSq (s t : SD) : SD := fun e h => match s e h with
  | .go .nx e1 h1 => t e1 h1
  | r => r
def sIf (t : TD) (a b : SD) : SD := fun e h => (t e h).toS e fun k h1 => if k then a e h1 else b e h1
def ofG (g : Tg) : GD := fun d e h => match g d e with
  | some e1 => .ok e1 h
  | none => .stuck
def gIx (o i : ED) : GD := fun d e h => (o e h).bind fun x h1 => (i e h1).bind fun y h2 => (setD x y d h2).bind fun _ h3 => .ok e h3
def sAs (a : ED) (g : GD) : SD := fun e h => (a e h).toS e fun d h1 => (g d e h1).toS e fun e1 h2 => .go .nx e1 h2
open Classical in
noncomputable def forGo (src : List (Nat × List D)) (tg : Tg) (b : SD) : List D → Ev → Hh → RS
  | [], e, h => if srcOk src h then .go .nx e h else .stuck
  | d :: r, e, h => if srcOk src h then match tg d e with
      | some e1 => match b e1 h with
        | .go .nx e2 h2 => forGo src tg b r e2 h2
        | .go .ct e2 h2 => forGo src tg b r e2 h2
        | .go .bk e2 h2 => .go .nx e2 h2
        | r => r
      | none => .stuck
    else .stuck
noncomputable def sFor (it : ID) (tg : Tg) (b : SD) : SD := fun e h => (it e h).toS e fun sq h1 => forGo sq.src tg b sq.items e h1
def whGo (t : TD) (b : SD) : Nat → SD
  | 0, _, _ => .stuck
  | n + 1, e, h => (t e h).toS e fun k h1 => if k then match b e h1 with
      | .go .nx e2 h2 => whGo t b n e2 h2
      | .go .ct e2 h2 => whGo t b n e2 h2
      | .go .bk e2 h2 => .go .nx e2 h2
      | r => r
    else .go .nx e h1
def sRaise (c : Nat) : SD := fun e h => .exc ⟨c, []⟩ e h
structure Hd where
  cls : Nat
  slot : Option Nat
  suite : Xc → SD
def clr (e : Ev) : Option Nat → Ev
  | some i => e.set i none
  | none => e
def slotOk (e : Ev) : Option Nat → Bool
  | some i => decide (i < e.length)
  | none => true
def sTry (sub : Nat → Nat → Option Bool) (b : SD) (hd : Hd) : SD := fun e h => match b e h with
  | .exc x e1 h1 => match sub x.cls hd.cls with
    | some true => if slotOk e1 hd.slot = true then match hd.suite x (clr e1 hd.slot) h1 with
        | .go f e2 h2 => .go f (clr e2 hd.slot) h2
        | _ => .stuck
      else .stuck
    | some false => .exc x e1 h1
    | none => .stuck
  | r => r
def fnRun (b : SD) (n : Nat) : FD := fun ds h => match b (ds.map some ++ List.replicate (n - ds.length) none) h with
  | .go .nx _ h1 => .ok .non h1
  | .go (.rt d) _ h1 => .ok d h1
  | .exc x _ h1 => .exc x h1
  | _ => .stuck
def fLen : FD := fun ds h => match ds with
  | [.tup xs] => .ok (.int xs.length) h
  | [.ref n] => match lstAt h n with
    | some xs => .ok (.int xs.length) h
    | none => .stuck
  | [.str z] => if z.length ≤ szl then .ok (.int z.length) h else .stuck
  | _ => .stuck
def fAbs : FD := fun ds h => match ds with
  | [.int i] => .ok (.int (if i < 0 then -i else i)) h
  | _ => .stuck
def fInt : FD := fun ds h => match ds with
  | [.str a] => match PySem.intText? a with
    | some n => if a.length ≤ 640 then .ok (.int n) h else .stuck
    | none => .stuck
  | [.int i] => .ok (.int i) h
  | [.bl b] => .ok (.int (if b then 1 else 0)) h
  | _ => .stuck
def fStr : FD := fun ds h => match ds with
  | [.int i] => if i.natAbs.log2 < 1920 then .ok (.str (toString i)) h else .stuck
  | _ => .stuck
def fStrL : FD := fun ds h => match ds with
  | [.int i] => if i.natAbs < 10 ^ 4300 then .ok (.str (toString i)) h else .stuck
  | _ => .stuck
def fGcd : FD := fun ds h => match ds with
  | [.int a, .int b] => .ok (.int ((Nat.gcd a.natAbs b.natAbs : Nat) : Int)) h
  | _ => .stuck
def fList : FD := fun ds h => match ds with
  | [.ref n] => match lstAt h n with
    | some xs => .ok (.ref h.length) (h ++ [.lst xs])
    | none => .stuck
  | [.tup xs] => .ok (.ref h.length) (h ++ [.lst xs])
  | _ => .stuck
def fRng1 : FD := fun ds h => match ds with
  | [.int hi] => .ok (.rg 0 hi) h
  | _ => .stuck
def fTuple : FD := fun ds h => match ds with
  | [.ref n] => match lstAt h n with
    | some xs => .ok (.tup xs) h
    | none => .stuck
  | [.tup xs] => .ok (.tup xs) h
  | _ => .stuck
def intsOf : List D → Option (List Int)
  | [] => some []
  | .int i :: r => (intsOf r).map (i :: ·)
  | _ => none
def blsOf : List D → Option (List Bool)
  | [] => some []
  | .bl i :: r => (blsOf r).map (i :: ·)
  | _ => none
def fSum : FD := fun ds h => match ds with
  | [.ref n] => match (lstAt h n).bind intsOf with
    | some xs => .ok (.int xs.sum) h
    | none => .stuck
  | _ => .stuck
def fAll : FD := fun ds h => match ds with
  | [.ref n] => match (lstAt h n).bind blsOf with
    | some xs => .ok (.bl (xs.all id)) h
    | none => .stuck
  | _ => .stuck
def fAny : FD := fun ds h => match ds with
  | [.ref n] => match (lstAt h n).bind blsOf with
    | some xs => .ok (.bl (xs.any id)) h
    | none => .stuck
  | _ => .stuck
def fMax : FD := fun ds h => match ds with
  | [.int i, .int j] => .ok (.int (if j > i then j else i)) h
  | _ => .stuck
def fMin : FD := fun ds h => match ds with
  | [.int i, .int j] => .ok (.int (if j < i then j else i)) h
  | _ => .stuck
inductive Ty where
  | int | bool | str | tuple | list
def isTy (t : Ty) (d : D) (h : Hh) : Option Bool := match d with
  | .non => some false
  | .bl _ => some (match t with | .int => true | .bool => true | _ => false)
  | .int _ => some (match t with | .int => true | _ => false)
  | .str _ => some (match t with | .str => true | _ => false)
  | .tup _ => some (match t with | .tuple => true | _ => false)
  | .ref n => (lstAt h n).map fun _ => (match t with | .list => true | _ => false)
  | .rg _ _ => none
def dIs (t : Ty) (a : ED) : ED := fun e h => (a e h).bind fun x h1 => ofB (isTy t x h1) id h1
def mAppend (x : D) (ds : List D) (h : Hh) : R D := match x, ds with
  | .ref n, [d] => match h[n]? with
    | some (.lst xs) => if xs.length < szl then .ok .non (h.set n (.lst (xs ++ [d]))) else .stuck
    | _ => .stuck
  | _, _ => .stuck
def mPop (x : D) (ds : List D) (h : Hh) : R D := match x, ds with
  | .ref n, [] => match h[n]? with
    | some (.lst xs) => match xs[xs.length - 1]? with
      | some y => .ok y (h.set n (.lst xs.dropLast))
      | none => .stuck
    | _ => .stuck
  | _, _ => .stuck
def chkL (x : D) (h : Hh) : Bool := match x with
  | .ref n => (lstAt h n).isSome
  | _ => false
def chkS (x : D) (_ : Hh) : Bool := match x with
  | .str _ => true
  | _ => false
def dM (c : D → Hh → Bool) (f : D → List D → Hh → R D) (a : ED) (as : AD) : ED := fun e h => (a e h).bind fun x h1 => if c x h1 = true then (as e h1).bind fun ds h2 => f x ds h2 else .stuck
def cutD (ds : List D) (lo hi : Option Int) : List D := (ds.drop (HT.sIx ds.length 0 lo)).take (HT.sIx ds.length ds.length hi - HT.sIx ds.length 0 lo)
def slD (x : D) (lo hi : Option Int) (h : Hh) : R D := match x with
  | .ref n => match lstAt h n with
    | some ds => .ok (.ref h.length) (h ++ [.lst (cutD ds lo hi)])
    | none => .stuck
  | .tup ds => .ok (.tup (cutD ds lo hi)) h
  | .str z => if z.length ≤ szl then .ok (.str (L2.cutS z lo hi)) h else .stuck
  | _ => .stuck
abbrev OD := Ev → Hh → R (Option Int)
def oN : OD := fun _ h => .ok none h
def oS (a : ED) : OD := fun e h => (a e h).bind fun x h1 => match x with
  | .int i => .ok (some i) h1
  | _ => .stuck
def dSl (a : ED) (lo hi : OD) : ED := fun e h => (a e h).bind fun x h1 => (lo e h1).bind fun l h2 => (hi e h2).bind fun u h3 => slD x l u h3
def mRev (x : D) (ds : List D) (h : Hh) : R D := match x, ds with
  | .ref n, [] => match h[n]? with
    | some (.lst xs) => .ok .non (h.set n (.lst xs.reverse))
    | _ => .stuck
  | _, _ => .stuck
def mPopAt (x : D) (ds : List D) (h : Hh) : R D := match x, ds with
  | .ref n, [.int i] => match h[n]? with
    | some (.lst xs) => if -(2 ^ 63) ≤ i ∧ i < 2 ^ 63 then match L2.ixN xs.length i with
      | some j => match xs[j]? with
        | some y => .ok y (h.set n (.lst (xs.eraseIdx j)))
        | none => .stuck
      | none => .stuck
      else .stuck
    | _ => .stuck
  | _, _ => .stuck
def mInsert (x : D) (ds : List D) (h : Hh) : R D := match x, ds with
  | .ref n, [.int i, d] => match h[n]? with
    | some (.lst xs) => if xs.length < szl ∧ 0 ≤ i ∧ i < 2 ^ 63 then .ok .non (h.set n (.lst (xs.take i.toNat ++ [d] ++ xs.drop i.toNat))) else .stuck
    | _ => .stuck
  | _, _ => .stuck
def mExtend (x : D) (ds : List D) (h : Hh) : R D := match x, ds with
  | .ref n, [.ref m] => match h[n]?, h[m]? with
    | some (.lst xs), some (.lst ys) => if xs.length + ys.length ≤ szl then .ok .non (h.set n (.lst (xs ++ ys))) else .stuck
    | _, _ => .stuck
  | _, _ => .stuck
def ixF (f : D → Bool) : List D → Option Nat
  | [] => none
  | d :: ds => if f d = true then some 0 else (ixF f ds).map (· + 1)
def ixP (f : PyData → Bool) : List PyData → Option Nat
  | [] => none
  | d :: ds => if f d = true then some 0 else (ixP f ds).map (· + 1)
def mIndex (x : D) (ds : List D) (h : Hh) : R D := match x, ds with
  | .ref n, [y] => match lstAt h n with
    | some xs => if flatD y = true ∧ xs.all flatD = true then match ixF (fun z => eqF z y) xs with
        | some j => .ok (.int (j : Nat)) h
        | none => .stuck
      else match toPD h 12 (.ref n), toPD h 12 y with
        | some (.list ps), some p => if SeqAt.shaped (.list ps) = true ∧ SeqAt.shaped p = true then match ixP (fun z => PyData.eqv z p) ps with
            | some j => .ok (.int (j : Nat)) h
            | none => .stuck
          else .stuck
        | _, _ => .stuck
    | none => .stuck
  | _, _ => .stuck
def mRemove (x : D) (ds : List D) (h : Hh) : R D := match x, ds with
  | .ref n, [.int k] => match h[n]? with
    | some (.lst xs) => match intsOf xs with
      | some is => match is.findIdx? (· == k) with
        | some j => .ok .non (h.set n (.lst ((is.eraseIdx j).map .int)))
        | none => .stuck
      | none => .stuck
    | _ => .stuck
  | _, _ => .stuck
def strsOf : List D → Option (List Str)
  | [] => some []
  | .str i :: r => (strsOf r).map (i :: ·)
  | _ => none
def mSplit (x : D) (ds : List D) (h : Hh) : R D := match x, ds with
  | .str a, [.str b] => if (b.length == 0) = false ∧ a.length + 2 ≤ szl then .ok (.ref h.length) (h ++ [.lst ((Txt.split a b).map .str)]) else .stuck
  | _, _ => .stuck
def mJoin (x : D) (ds : List D) (h : Hh) : R D := match x, ds with
  | .str a, [.ref n] => match (lstAt h n).bind strsOf with
    | some ys => if (ys.map (·.length)).sum + ys.length * a.length ≤ 16777216 then .ok (.str (Txt.join a ys)) h else .stuck
    | none => .stuck
  | _, _ => .stuck
def mRfind (x : D) (ds : List D) (h : Hh) : R D := match x, ds with
  | .str a, [.str b] => .ok (.int (Txt.rfind a b)) h
  | _, _ => .stuck
def mPart (x : D) (ds : List D) (h : Hh) : R D := match x, ds with
  | .str a, [.str b] => if (b.length == 0) = false ∧ a.length ≤ szl then .ok (.tup [.str (Txt.partition a b).1, .str (Txt.partition a b).2.1, .str (Txt.partition a b).2.2]) h else .stuck
  | _, _ => .stuck
def fLRev : FD := fun ds h => match ds with
  | [.ref n] => match lstAt h n with
    | some xs => .ok (.ref h.length) (h ++ [.lst xs.reverse])
    | none => .stuck
  | _ => .stuck
def fLRng : FD := fun ds h => match ds with
  | [.int n] => if -(2 ^ 62) ≤ n ∧ n < szl then .ok (.ref h.length) (h ++ [.lst (rngD 0 n.toNat)]) else .stuck
  | [.int lo, .int n] => if -(2 ^ 62) ≤ lo ∧ lo < 2 ^ 62 ∧ -(2 ^ 62) ≤ n ∧ n < 2 ^ 62 ∧ (n - lo).toNat ≤ szl then .ok (.ref h.length) (h ++ [.lst (rngD lo (n - lo).toNat)]) else .stuck
  | _ => .stuck
def fSorted : FD := fun ds h => match ds with
  | [.ref n] => match (lstAt h n).bind intsOf with
    | some is => if is.length < 64 then .ok (.ref h.length) (h ++ [.lst ((is.mergeSort (fun a b => decide (a ≤ b))).map .int)]) else .stuck
    | none => .stuck
  | _ => .stuck
def sPar (i j : Nat) (a b : ED) : SD := fun e h => (a e h).toS e fun v h1 => (b e h1).toS e fun w h2 => .go .nx ((e.set i (some v)).set j (some w)) h2
def getL (x y : D) (h : Hh) : R D := match x, y with
  | .ref n, .int i => match lstAt h n with
    | some ds => if 0 ≤ i ∧ i < 2 ^ 63 then match ds[i.toNat]? with
      | some d => .ok d h
      | none => .stuck
      else .stuck
    | none => .stuck
  | _, _ => .stuck
def sAugI (io : D → D → Hh → R D) (x i a : ED) : SD := fun e h => (x e h).toS e fun o h1 => (i e h1).toS e fun k h2 => (getL o k h2).toS e fun v h3 => (a e h3).toS e fun w h4 => (io v w h4).toS e fun z h5 => (setD o k z h5).toS e fun _ h6 => .go .nx e h6
def noX {α : Type} : R α → R α
  | .exc _ _ => .stuck
  | r => r
open Classical in
noncomputable def lc2Go (src : List (Nat × List D)) (tg : Tg) (t : TD) (it1 : ID) (tg1 : Tg) (t1 : TD) (el : ED) (e : Ev) (vs1 : List Nat) (p : Nat) : List D → Hh → R D
  | [], h => if srcOk src h then .ok (.ref p) h else .stuck
  | d :: r, h => if srcOk src h then match tg d e with
      | some e1 => match t e1 h with
        | .ok false h1 => lc2Go src tg t it1 tg1 t1 el e vs1 p r h1
        | .ok true h1 => (noX (it1 e1 h1)).bind fun sq h2 => (lcGo sq.src tg1 t1 el (wipe e1 vs1) p sq.items h2).bind fun _ h3 => lc2Go src tg t it1 tg1 t1 el e vs1 p r h3
        | _ => .stuck
      | none => .stuck
    else .stuck
noncomputable def dLc2 (it : ID) (tg : Tg) (t : TD) (it1 : ID) (tg1 : Tg) (t1 : TD) (el : ED) (own vs1 : List Nat) : ED := fun e h => (it e h).bind fun sq h1 => lc2Go sq.src tg t it1 tg1 t1 el (wipe e own) vs1 h1.length sq.items (h1 ++ [.lst []])
def fnames : List Str := (["_answers", "_delivered", "_fuse", "_games", "_letters", "_lines", "_machines", "_notes", "_power", "_rounds", "_rules", "_text", "accepted", "agents", 
  "aim", "answered", "attempt", "ballot", "basis", "best", "bidders", "book_body", "boot", "closing", "columns", "commit", "commits", "contents", "cuts", 
  "decided", "desk", "endless", "first_helper", "free", "gains", "game", "goal", "handed", "header", "held", "high", "honest", "item", "journal", "kept", 
  "key", "known_keys", "leaves", "limit", "line", "lines", "list_body", "lots", "low", "machine", "member", "needs", "nodes", "notary", "noted", 
  "number", "opens", "outcomes", "parties", "payments", "place", "price", "profile", "promised", "reason", "report", "round_number", "rows", "rule", 
  "rule_name", "sent", "shares", "signed", "terms_number", "text", "told", "tree", "turns", "value", "variables", "whole"] : List String).map Str.ofString
def fnm (i : Nat) : Str := fnames.getD i ""
def putA {α : Type} (f : Nat) (v : α) : List (Nat × α) → List (Nat × α)
  | [] => [(f, v)]
  | (g, x) :: r => if g = f then (g, v) :: r else (g, x) :: putA f v r
def insAt (h : Hh) : D → Option (Nat × List (Nat × D))
  | .ref n => match h[n]? with
    | some (.ins c fs) => some (c, fs)
    | _ => none
  | _ => none
def fldD (f : Nat) (x : D) (h : Hh) : R D := match insAt h x with
  | some (_, fs) => match fs.lookup f with
    | some d => .ok d h
    | none => .stuck
  | none => .stuck
def dFld (f : Nat) (a : ED) : ED := fun e h => (a e h).bind fun x h1 => fldD f x h1
def putD (na : Nat → List Nat) (f : Nat) (x v : D) (h : Hh) : R Unit := match x with
  | .ref n => match h[n]? with
    | some (.ins c fs) => if (na c).elem f = true ∧ fs.length < 900 then .ok () (h.set n (.ins c (putA f v fs))) else .stuck
    | _ => .stuck
  | _ => .stuck
def sFl (na : Nat → List Nat) (f : Nat) (o a : ED) : SD := fun e h => (a e h).toS e fun v h1 => (o e h1).toS e fun x h2 => (putD na f x v h2).toS e fun _ h3 => .go .nx e h3
def sAugF (na : Nat → List Nat) (f : Nat) (io : D → D → Hh → R D) (o a : ED) : SD := fun e h => (o e h).toS e fun x h1 => (fldD f x h1).toS e fun v h2 => (a e h2).toS e fun w h3 => (io v w h3).toS e fun z h4 => if (insAt h4 x).map (·.1) = (insAt h2 x).map (·.1) then (putD na f x z h4).toS e fun _ h5 => .go .nx e h5 else .stuck
def dMe (ms : List (Nat × FD)) (o : ED) (as : AD) : ED := fun e h => (o e h).bind fun x h1 => match insAt h1 x with
  | some (c, _) => match ms.lookup c with
    | some f => (as e h1).bind fun ds h2 => f (x :: ds) h2
    | none => .stuck
  | none => .stuck
def mkD (c : Nat) (f : FD) (ds : List D) (h : Hh) : R D := (f (.ref h.length :: ds) (h ++ [.ins c []])).bind fun r h2 => match r with
  | .non => .ok (.ref h.length) h2
  | _ => .stuck
def dMk (c : Nat) (f : FD) (as : AD) (dv : List D) : ED := fun e h => (as e h).bind fun ds h1 => mkD c f (ds ++ dv) h1
inductive KP where
  | p (i : Nat) | k (i : Nat) | c (i : Nat)
def KP.gt {α : Type} (us mv ws : List α) : KP → Option α
  | .p i => us[i]?
  | .k i => ws[i]?
  | .c i => mv[i]?
def gKP (kp : List KP) {α : Type} (us mv ws : List α) : List α := kp.filterMap (KP.gt us mv ws)
def dMkK (c : Nat) (f : FD) (kp : List KP) (cs : List D) (as ks : AD) : ED := fun e h => (as e h).bind fun ds h1 => (ks e h1).bind fun zs h2 => (f (gKP kp (.ref h2.length :: ds) cs zs) (h2 ++ [.ins c []])).bind fun r h3 => match r with
  | .non => .ok (.ref h2.length) h3
  | _ => .stuck
def sRaiseA (c : Nat) (fs : List Nat) (as : AD) : SD := fun e h => (as e h).toS e fun ds h1 => if ds.length = fs.length then .exc ⟨c, (fs.zip ds).reverse⟩ e h1 else .stuck
def insL : List (Nat × List Nat) := [(40, [12, 15, 17, 42, 65]), (41, [20, 66, 81]), (42, [21, 26, 35, 45, 51, 58, 61, 71, 78]), (43, [13, 14, 52, 56, 62, 64]), (44, [13, 38, 56, 62]), (45, [0, 3, 5, 7, 9, 10]), (46, [2, 8, 11]), (47, [12, 16, 22, 29, 37, 39, 43, 59, 60, 68]), (48, [1, 4, 6]), (49, [30, 41, 46, 58, 63, 71, 75]), (50, [27, 46, 77]), (51, [21, 25, 35, 44, 45, 51, 55, 58, 70, 71, 73, 78]), (52, [33, 36, 72, 84]), (53, [23, 74, 80]), (54, [19, 31, 47, 57, 83, 85]), (55, [18, 24, 32, 34, 50, 82]), (56, [28, 40, 53, 76])]
def naT (c : Nat) : List Nat := (insL.lookup c).getD []
end Mn
namespace Mn
open PySem L2
abbrev Xs := Option (Nat × Addr × Xc × Option Addr)
structure Fx where
  K : PySem.W.Frag
  cv : Nat → Value
  fn : Nat → Str
  /-- the slot of the exception that is being handled, its address, its dict -/
  ex : Xs
mutual
inductive RD (K : PySem.W.Frag) (m : Nat → Addr) (N : Nat) (H : Hp) : D → V → Prop
  | non : RD K m N H .non .non
  | bl (b : Bool) : RD K m N H (.bl b) (.bl b)
  | int (i : Int) : RD K m N H (.int i) (.int i)
  | str (s : Str) : RD K m N H (.str s) (.str s)
  | tup {a : Addr} {ds : List D} {vs : List V} : SqT K H a vs → RDs K m N H ds vs → RD K m N H (.tup ds) (.ref a)
  | ref {n : Nat} : n < N → RD K m N H (.ref n) (.ref (m n))
  | rg {a : Addr} {lo hi : Int} : H a = some (.rng lo hi) → RD K m N H (.rg lo hi) (.ref a)
inductive RDs (K : PySem.W.Frag) (m : Nat → Addr) (N : Nat) (H : Hp) : List D → List V → Prop
  | nil : RDs K m N H [] []
  | cons {d : D} {v : V} {ds : List D} {vs : List V} : RD K m N H d v → RDs K m N H ds vs → RDs K m N H (d :: ds) (v :: vs)
end
structure TK (H H' : Hp) : Prop where
  tup : ∀ a xs, H a = some (.tup xs) → H' a = some (.tup xs)
  flst : ∀ a o xs, H a = some (.frz o (.lst xs)) → H' a = some (.frz o (.lst xs))
  ftup : ∀ a o xs, H a = some (.frz o (.tup xs)) → H' a = some (.frz o (.tup xs))
  xd : ∀ a fs, H a = some (.xd fs) → H' a = some (.xd fs)
  rg : ∀ a lo hi, H a = some (.rng lo hi) → H' a = some (.rng lo hi)
theorem TK.refl (H : Hp) : TK H H := ⟨fun _ _ h => h, fun _ _ _ h => h, fun _ _ _ h => h, fun _ _ h => h, fun _ _ _ h => h⟩
theorem TK.trans {H H1 H2 : Hp} (a : TK H H1) (b : TK H1 H2) : TK H H2 := ⟨fun _ _ h => b.tup _ _ (a.tup _ _ h), fun _ _ _ h => b.flst _ _ _ (a.flst _ _ _ h), fun _ _ _ h => b.ftup _ _ _ (a.ftup _ _ _ h), fun _ _ h => b.xd _ _ (a.xd _ _ h), fun _ _ _ h => b.rg _ _ _ (a.rg _ _ _ h)⟩
theorem TK.seq {K : PySem.W.Frag} {H H' : Hp} (t : TK H H') {a : Addr} {xs : List V} (h : SqT K H a xs) : SqT K H' a xs := by
  rcases h with (h | ⟨o, h⟩) | h
  · exact .inl (.inl (t.tup _ _ h))
  · exact .inl (.inr ⟨o, t.ftup _ _ _ h⟩)
  · exact .inr h
theorem TK.upd {H : Hp} {p : Addr} {o : HO} (h : H p = none) : TK H (upd H p o) :=
  ⟨fun a xs e => by rw [upd_ne (ne_of_none e h)]; exact e, fun a _ xs e => by rw [upd_ne (ne_of_none e h)]; exact e, fun a _ xs e => by rw [upd_ne (ne_of_none e h)]; exact e, fun a xs e => by rw [upd_ne (ne_of_none e h)]; exact e, fun a _ _ e => by rw [upd_ne (ne_of_none e h)]; exact e⟩
theorem TK.set {H : Hp} {p : Addr} {o u : HO} (h : H p = some u) (n1 : ∀ xs, u ≠ .tup xs) (n2 : ∀ o xs, u ≠ .frz o xs) (n3 : ∀ xs, u ≠ .xd xs) (n4 : ∀ lo hi, u ≠ .rng lo hi) : TK H (L2.upd H p o) :=
  ⟨fun a xs e => by rw [upd_ne (ne_of e h fun z => n1 xs z.symm)]; exact e, fun a o xs e => by rw [upd_ne (ne_of e h fun z => n2 o _ z.symm)]; exact e, fun a o xs e => by rw [upd_ne (ne_of e h fun z => n2 o _ z.symm)]; exact e, fun a xs e => by rw [upd_ne (ne_of e h fun z => n3 xs z.symm)]; exact e, fun a lo hi e => by rw [upd_ne (ne_of e h fun z => n4 lo hi z.symm)]; exact e⟩
section
variable {K : PySem.W.Frag} {m m' : Nat → Addr} {N N' : Nat} {H H' : Hp}
mutual
theorem RD.mono (t : TK H H') (e : ∀ n, n < N → m' n = m n) (hN : N ≤ N') : ∀ {d : D} {v : V}, RD K m N H d v → RD K m' N' H' d v
  | _, _, .non => .non
  | _, _, .bl b => .bl b
  | _, _, .int i => .int i
  | _, _, .str s => .str s
  | _, _, .tup h r => .tup (t.seq h) (RDs.mono t e hN r)
  | _, _, .ref h => by rw [← e _ h]; exact .ref (Nat.lt_of_lt_of_le h hN)
  | _, _, .rg h => .rg (t.rg _ _ _ h)
theorem RDs.mono (t : TK H H') (e : ∀ n, n < N → m' n = m n) (hN : N ≤ N') : ∀ {ds : List D} {vs : List V}, RDs K m N H ds vs → RDs K m' N' H' ds vs
  | _, _, .nil => .nil
  | _, _, .cons r rs => .cons (RD.mono t e hN r) (RDs.mono t e hN rs)
end
theorem RDs.length : ∀ {ds : List D} {vs : List V}, RDs K m N H ds vs → ds.length = vs.length
  | _, _, .nil => rfl
  | _, _, .cons _ r => congrArg Nat.succ (RDs.length r)
theorem RDs.get : ∀ {ds : List D} {vs : List V} {i : Nat} {d : D}, RDs K m N H ds vs → ds[i]? = some d → ∃ v, vs[i]? = some v ∧ RD K m N H d v
  | _, _, _, _, .nil, e => by simp at e
  | _, _, 0, _, .cons r _, e => by simp at e; subst e; exact ⟨_, rfl, r⟩
  | _, _, i + 1, d, .cons _ r, e => by
    obtain ⟨v, h1, h2⟩ := RDs.get (i := i) (d := d) r (by simpa using e)
    exact ⟨v, by simpa using h1, h2⟩
theorem RDs.getV : ∀ {ds : List D} {vs : List V} {i : Nat} {v : V}, RDs K m N H ds vs → vs[i]? = some v → ∃ d, ds[i]? = some d ∧ RD K m N H d v
  | _, _, _, _, .nil, e => by simp at e
  | _, _, 0, _, .cons r _, e => by simp at e; subst e; exact ⟨_, rfl, r⟩
  | _, _, i + 1, d, .cons _ r, e => by
    obtain ⟨v, h1, h2⟩ := RDs.getV (i := i) (v := d) r (by simpa using e)
    exact ⟨v, by simpa using h1, h2⟩
theorem RDs.append : ∀ {ds es : List D} {vs ws : List V}, RDs K m N H ds vs → RDs K m N H es ws → RDs K m N H (ds ++ es) (vs ++ ws)
  | _, _, _, _, .nil, s => s
  | _, _, _, _, .cons r t, s => .cons r (RDs.append t s)
theorem RDs.snoc {ds : List D} {vs : List V} {d : D} {v : V} (a : RDs K m N H ds vs) (b : RD K m N H d v) : RDs K m N H (ds ++ [d]) (vs ++ [v]) := a.append (.cons b .nil)
theorem RDs.set : ∀ {ds : List D} {vs : List V} {d : D} {v : V} (i : Nat), RD K m N H d v → RDs K m N H ds vs → RDs K m N H (ds.set i d) (vs.set i v)
  | _, _, _, _, _, _, .nil => .nil
  | _, _, _, _, 0, r, .cons _ t => .cons r t
  | _, _, _, _, i + 1, r, .cons q t => .cons q (RDs.set i r t)
theorem RDs.dropLast {ds : List D} {vs : List V} (r : RDs K m N H ds vs) : RDs K m N H ds.dropLast vs.dropLast := by
  induction r using RDs.rec (motive_1 := fun _ _ _ => True) with
  | nil => exact .nil
  | @cons d v ds vs a b _ ih =>
    cases b with
    | nil => exact .nil
    | cons a' b' => exact .cons a ih
  | _ => trivial
theorem RDs.reverse {ds : List D} {vs : List V} (r : RDs K m N H ds vs) : RDs K m N H ds.reverse vs.reverse := by
  induction r using RDs.rec (motive_1 := fun _ _ _ => True) with
  | nil => exact .nil
  | cons a b _ ih => rw [List.reverse_cons, List.reverse_cons]; exact ih.append (.cons a .nil)
  | _ => trivial
theorem RDs.take {ds : List D} {vs : List V} (n : Nat) (r : RDs K m N H ds vs) : RDs K m N H (ds.take n) (vs.take n) := by
  induction n generalizing ds vs with
  | zero => exact .nil
  | succ n ih => cases r with
    | nil => exact .nil
    | cons a b => exact .cons a (ih b)
theorem RDs.drop {ds : List D} {vs : List V} (n : Nat) (r : RDs K m N H ds vs) : RDs K m N H (ds.drop n) (vs.drop n) := by
  induction n generalizing ds vs with
  | zero => exact r
  | succ n ih => cases r with
    | nil => exact .nil
    | cons a b => exact ih b
theorem RDs.rep {ds : List D} {vs : List V} (r : RDs K m N H ds vs) : ∀ k : Nat, RDs K m N H (List.replicate k ds).flatten (List.replicate k vs).flatten
  | 0 => .nil
  | k + 1 => by rw [List.replicate_succ, List.replicate_succ, List.flatten_cons, List.flatten_cons]; exact r.append (RDs.rep r k)
end
def FzL (K : PySem.W.Frag) (H : Hp) (a : Addr) (vs : List V) : Prop := (∃ o, H a = some (.frz o (.lst vs))) ∨
  ∃ (o : Obj) (its : Array Value) (n : Nat), K.lookup a = some o ∧ o.cls = .type "list" ∧ o.dict = none ∧ o.data = .seq its n ∧ its.size ≤ sizeLine ∧ Vals vs its.toList
theorem FzL.seq {K : PySem.W.Frag} {H : Hp} {a : Addr} {vs : List V} (h : FzL K H a vs) : SqL K H a vs := by
  rcases h with ⟨o, h⟩ | h
  · exact .inl (.inr ⟨o, h⟩)
  · exact .inr h
theorem FzL.mono {K : PySem.W.Frag} {H H' : Hp} {a : Addr} {vs : List V} (t : TK H H') (h : FzL K H a vs) : FzL K H' a vs := by
  rcases h with ⟨o, h⟩ | h
  · exact .inl ⟨o, t.flst _ _ _ h⟩
  · exact .inr h
def isFz : O → Bool
  | .frz _ => true
  | _ => false
def RO (T : Fx) (m : Nat → Addr) (N : Nat) (H : Hp) (a : Addr) : O → Prop
  | .lst ds => ∃ vs, H a = some (.lst vs) ∧ RDs T.K m N H ds vs
  | .frz ds => ∃ vs, FzL T.K H a vs ∧ RDs T.K m N H ds vs
  | .ins c fs => ∃ C dx vs, T.cv c = .ref C ∧ H a = some (.ins C dx vs) ∧ Paired (fun (p : Nat × D) (q : Str × V) => q.1 = fnm p.1 ∧ RD T.K m N H p.2 q.2) fs vs ∧ Cls T.K C ∧ ∀ p ∈ fs, p.1 < fnames.length ∧ NoAttr T.K C (fnm p.1)
structure RH (T : Fx) (m : Nat → Addr) (h : Hh) (H : Hp) : Prop where
  obj : ∀ n o, h[n]? = some o → RO T m h.length H (m n) o
  inj : ∀ i j o u, h[i]? = some o → h[j]? = some u → isFz o = false → isFz u = false → m i = m j → i = j
structure Ge (m : Nat → Addr) (h : Hh) (H : Hp) (m' : Nat → Addr) (h' : Hh) (H' : Hp) : Prop where
  eq : ∀ n, n < h.length → m' n = m n
  le : h.length ≤ h'.length
  tk : TK H H'
theorem Ge.refl {m : Nat → Addr} {h : Hh} {H : Hp} : Ge m h H m h H := ⟨fun _ _ => rfl, Nat.le_refl _, TK.refl _⟩
theorem Ge.trans {m m1 m2 : Nat → Addr} {h h1 h2 : Hh} {H H1 H2 : Hp} (a : Ge m h H m1 h1 H1) (b : Ge m1 h1 H1 m2 h2 H2) : Ge m h H m2 h2 H2 :=
  ⟨fun n hn => (b.eq n (Nat.lt_of_lt_of_le hn a.le)).trans (a.eq n hn), Nat.le_trans a.le b.le, a.tk.trans b.tk⟩
theorem Ge.rd {K : PySem.W.Frag} {m m' : Nat → Addr} {h h' : Hh} {H H' : Hp} (g : Ge m h H m' h' H') {d : D} {v : V} (r : RD K m h.length H d v) : RD K m' h'.length H' d v := r.mono g.tk g.eq g.le
theorem Ge.rds {K : PySem.W.Frag} {m m' : Nat → Addr} {h h' : Hh} {H H' : Hp} (g : Ge m h H m' h' H') {d : List D} {v : List V} (r : RDs K m h.length H d v) : RDs K m' h'.length H' d v := r.mono g.tk g.eq g.le
def RXf (K : PySem.W.Frag) (m : Nat → Addr) (N : Nat) (H : Hp) (fs : List (Nat × D)) (dd : Option Addr) : Prop :=
  (fs = [] → dd = none) ∧ (fs ≠ [] → ∃ dx vs, dd = some dx ∧ H dx = some (.xd vs) ∧ Paired (fun (p : Nat × D) (q : Str × V) => q.1 = fnm p.1 ∧ RD K m N H p.2 q.2) fs vs)
theorem Ge.rxf {K : PySem.W.Frag} {m m' : Nat → Addr} {h h' : Hh} {H H' : Hp} (g : Ge m h H m' h' H') {fs : List (Nat × D)} {dd : Option Addr} (r : RXf K m h.length H fs dd) : RXf K m' h'.length H' fs dd :=
  ⟨r.1, fun n => let ⟨dx, vs, e1, e2, e3⟩ := r.2 n; ⟨dx, vs, e1, g.tk.xd _ _ e2, Paired.mapP e3 fun _ _ z => ⟨z.1, g.rd z.2⟩⟩⟩
structure RE (T : Fx) (m : Nat → Addr) (N : Nat) (H : Hp) (e : Ev) (σ : St) : Prop where
  len : e.length = σ.length
  at_ : ∀ (i : Nat) (d : D), e[i]? = some (some d) → ∃ v, σ[i]? = some (some v) ∧ RD T.K m N H d v
  exc : ∀ (i : Nat) (a : Addr) (x : Xc) (dd : Option Addr), T.ex = some (i, a, x, dd) → σ[i]? = some (some (.ref a)) ∧ RXf T.K m N H x.fs dd
def Nx (T : Fx) (i : Nat) : Prop := ∀ (j : Nat) (q : Addr × Xc × Option Addr), T.ex = some (j, q) → j ≠ i
theorem Ge.re {T : Fx} {m m' : Nat → Addr} {h h' : Hh} {H H' : Hp} (g : Ge m h H m' h' H') {e : Ev} {σ : St} (r : RE T m h.length H e σ) : RE T m' h'.length H' e σ :=
  ⟨r.len, fun i d x => let ⟨v, h1, h2⟩ := r.at_ i d x; ⟨v, h1, g.rd h2⟩, fun i a x dd e => let ⟨e1, e2⟩ := r.exc i a x dd e; ⟨e1, g.rxf e2⟩⟩
theorem RE.put {T : Fx} {m : Nat → Addr} {N : Nat} {H : Hp} {e : Ev} {σ : St} (r : RE T m N H e σ) (i : Nat) {o : Option D} {w : Option V} (nx : Nx T i) (q : ∀ d, o = some d → ∃ v, w = some v ∧ RD T.K m N H d v) : RE T m N H (e.set i o) (σ.set i w) := by
  refine ⟨by rw [List.length_set, List.length_set]; exact r.len, fun j x h => ?_, fun j a x dd h => by rw [List.getElem?_set_ne (Ne.symm (nx j _ h))]; exact r.exc j a x dd h⟩
  by_cases hij : i = j
  · subst hij
    by_cases hl : i < e.length
    · rw [List.getElem?_set_self hl] at h
      obtain ⟨v, rfl, rv⟩ := q x (Option.some.inj h)
      exact ⟨v, List.getElem?_set_self (by rw [← r.len]; exact hl), rv⟩
    · rw [List.getElem?_eq_none (by rw [List.length_set]; omega)] at h
      cases h
  · rw [List.getElem?_set_ne hij] at h ⊢
    exact r.at_ j x h
theorem RE.set {T : Fx} {m : Nat → Addr} {N : Nat} {H : Hp} {e : Ev} {σ : St} (r : RE T m N H e σ) (i : Nat) {d : D} {v : V} (nx : Nx T i) (q : RD T.K m N H d v) : RE T m N H (e.set i (some d)) (σ.set i (some v)) :=
  r.put i nx fun d' e => by cases e; exact ⟨v, rfl, q⟩
theorem RE.drop1 {T : Fx} {m : Nat → Addr} {N : Nat} {H : Hp} {e : Ev} {σ : St} (r : RE T m N H e σ) (i : Nat) (nx : Nx T i) (w : Option V) : RE T m N H (e.set i none) (σ.set i w) :=
  r.put i nx fun d' e => by cases e
theorem RE.wipe {T : Fx} {m : Nat → Addr} {N : Nat} {H : Hp} {e : Ev} {σ : St} (r : RE T m N H e σ) (hx : T.ex = none) : ∀ vs : List Nat, RE T m N H (Mn.wipe e vs) (L2.wipe σ vs)
  | [] => r
  | v :: vs => (RE.wipe r hx vs).drop1 v (fun j a h => by rw [hx] at h; cases h) none
def RX (T : Fx) (m : Nat → Addr) (N : Nat) (H : Hp) (x : Xc) (cls : Value) (dd : Option Addr) : Prop :=
  cls = T.cv x.cls ∧ RXf T.K m N H x.fs dd
section
variable (T : Fx) (W : WX)
def PO {α β : Type} (RA : (Nat → Addr) → Nat → Hp → α → β → Prop) (σ : St) (m : Nat → Addr) (h : Hh) (H : Hp) (r : R α) (Q : β → Hp → Prop) : Prop := match r with
  | .ok a h' => ∀ m' H' b, Ge m h H m' h' H' → RH T m' h' H' → RA m' h'.length H' a b → Q b H'
  | .exc x h' => ∀ m' H' cls dd, Ge m h H m' h' H' → RH T m' h' H' → RX T m' h'.length H' x cls dd → W cls dd σ H'
  | .stuck => False
def PE_ (f : ED) : TE := fun σ H Q => ∃ m e h, RH T m h H ∧ RE T m h.length H e σ ∧ PO T W (fun m N H d v => RD T.K m N H d v) σ m h H (f e h) Q
def PT_ (f : TD) : TT := fun σ H Q => ∃ m e h, RH T m h H ∧ RE T m h.length H e σ ∧ PO T W (fun _ _ _ d v => d = v) σ m h H (f e h) Q
def PA_ (f : AD) : TA := fun σ H Q => ∃ m e h, RH T m h H ∧ RE T m h.length H e σ ∧ PO T W (fun m N H d v => RDs T.K m N H d v) σ m h H (f e h) Q
def PSo (D : Ends) (m : Nat → Addr) (h : Hh) (H : Hp) (r : RS) : Prop := match r with
  | .go .nx e' h' => ∀ m' H' σ', Ge m h H m' h' H' → RH T m' h' H' → RE T m' h'.length H' e' σ' → D.nx σ' H'
  | .go .bk e' h' => ∀ m' H' σ', Ge m h H m' h' H' → RH T m' h' H' → RE T m' h'.length H' e' σ' → D.bk σ' H'
  | .go .ct e' h' => ∀ m' H' σ', Ge m h H m' h' H' → RH T m' h' H' → RE T m' h'.length H' e' σ' → D.ct σ' H'
  | .go (.rt d) _ h' => ∀ m' H' v, Ge m h H m' h' H' → RH T m' h' H' → RD T.K m' h'.length H' d v → D.rt v H'
  | .exc x e' h' => ∀ m' H' σ' cls dd, Ge m h H m' h' H' → RH T m' h' H' → RE T m' h'.length H' e' σ' → RX T m' h'.length H' x cls dd → W cls dd σ' H'
  | .stuck => False
def PS_ (f : SD) : TS := fun D σ H => ∃ m e h, RH T m h H ∧ RE T m h.length H e σ ∧ PSo T W D m h H (f e h)
end
section
variable {T : Fx} {W : WX}
theorem PO.base {α β : Type} {RA : (Nat → Addr) → Nat → Hp → α → β → Prop} {σ : St} {m m1 : Nat → Addr} {h h1 : Hh} {H H1 : Hp} {r : R α} {Q : β → Hp → Prop} (p : PO T W RA σ m h H r Q) (g : Ge m h H m1 h1 H1) : PO T W RA σ m1 h1 H1 r Q := by
  cases r with
  | ok a h' => exact fun m' H' b g' => p m' H' b (g.trans g')
  | exc x h' => exact fun m' H' cls dd g' => p m' H' cls dd (g.trans g')
  | stuck => exact p
theorem PSo.base {D : Ends} {m m1 : Nat → Addr} {h h1 : Hh} {H H1 : Hp} {r : RS} (p : PSo T W D m h H r) (g : Ge m h H m1 h1 H1) : PSo T W D m1 h1 H1 r := by
  cases r with
  | go f e h' => cases f with
    | nx => exact fun m' H' b g' => p m' H' b (g.trans g')
    | bk => exact fun m' H' b g' => p m' H' b (g.trans g')
    | ct => exact fun m' H' b g' => p m' H' b (g.trans g')
    | rt d => exact fun m' H' b g' => p m' H' b (g.trans g')
  | exc x e h' => exact fun m' H' σ' cls dd g' => p m' H' σ' cls dd (g.trans g')
  | stuck => exact p
theorem PO.bind {α β γ δ : Type} {RA : (Nat → Addr) → Nat → Hp → α → β → Prop} {RB : (Nat → Addr) → Nat → Hp → γ → δ → Prop} {σ : St} {m : Nat → Addr} {h : Hh} {H : Hp} {r : R α} {f : α → Hh → R γ} {Q : δ → Hp → Prop} {Q1 : β → Hp → Prop}
    (p : PO T W RB σ m h H (r.bind f) Q) (k : ∀ a h' m' H' b, Ge m h H m' h' H' → RH T m' h' H' → RA m' h'.length H' a b → PO T W RB σ m' h' H' (f a h') Q → Q1 b H') : PO T W RA σ m h H r Q1 := by
  cases r with
  | ok a h' => exact fun m' H' b g rh ra => k a h' m' H' b g rh ra (PO.base (r := f a h') p g)
  | exc x h' => exact p
  | stuck => exact p
theorem PO.toS {α β : Type} {RA : (Nat → Addr) → Nat → Hp → α → β → Prop} {σ : St} {e : Ev} {D : Ends} {m : Nat → Addr} {h : Hh} {H : Hp} {r : R α} {f : α → Hh → RS} {Q1 : β → Hp → Prop} (re : RE T m h.length H e σ)
    (p : PSo T W D m h H (r.toS e f)) (k : ∀ a h' m' H' b, Ge m h H m' h' H' → RH T m' h' H' → RA m' h'.length H' a b → PSo T W D m' h' H' (f a h') → Q1 b H') : PO T W RA σ m h H r Q1 := by
  cases r with
  | ok a h' => exact fun m' H' b g rh ra => k a h' m' H' b g rh ra (PSo.base (r := f a h') p g)
  | exc x h' => exact fun m' H' cls dd g rh rx => p m' H' σ cls dd g rh (g.re re) rx
  | stuck => exact p
theorem RO.there {m : Nat → Addr} {N : Nat} {H : Hp} {a : Addr} {o : O} (r : RO T m N H a o) (f : isFz o = false) : ∃ w, H a = some w ∧ (∀ xs, w ≠ .tup xs) ∧ ∀ o xs, w ≠ .frz o xs := by
  cases o with
  | lst ds => obtain ⟨vs, q, _⟩ := r; exact ⟨_, q, fun _ z => (by cases z), fun _ _ z => by cases z⟩
  | frz ds => cases f
  | ins c fs => obtain ⟨C, dx, vs, _, q, _, _, _⟩ := r; exact ⟨_, q, fun _ z => (by cases z), fun _ _ z => by cases z⟩
theorem RO.mono {m m' : Nat → Addr} {h h' : Hh} {H H' : Hp} {a : Addr} {o : O} (g : Ge m h H m' h' H') (r : RO T m h.length H a o) (k : isFz o = false → H' a = H a) : RO T m' h'.length H' a o := by
  cases o with
  | lst ds => obtain ⟨vs, q1, q2⟩ := r; exact ⟨vs, (k rfl).trans q1, g.rds q2⟩
  | frz ds => obtain ⟨vs, q1, q2⟩ := r; exact ⟨vs, q1.mono g.tk, g.rds q2⟩
  | ins c fs => obtain ⟨C, dx, vs, q0, q1, q2, q3⟩ := r; exact ⟨C, dx, vs, q0, (k rfl).trans q1, Paired.mapP q2 fun _ _ z => ⟨z.1, g.rd z.2⟩, q3⟩
theorem RH.new {m : Nat → Addr} {h : Hh} {H : Hp} {p : Addr} {u : HO} {o : O} (r : RH T m h H) (hp : H p = none) (ho : ∀ m' : Nat → Addr, (∀ n, n < h.length → m' n = m n) → m' h.length = p → RO T m' (h.length + 1) (upd H p u) p o) :
    ∃ m', Ge m h H m' (h ++ [o]) (upd H p u) ∧ RH T m' (h ++ [o]) (upd H p u) ∧ RD T.K m' (h ++ [o]).length (upd H p u) (.ref h.length) (.ref p) := by
  refine ⟨fun n => if n < h.length then m n else p, ?_⟩
  have e1 : ∀ n, n < h.length → (if n < h.length then m n else p) = m n := fun n hn => if_pos hn
  have e2 : (if h.length < h.length then m h.length else p) = p := if_neg (Nat.lt_irrefl _)
  have g : Ge m h H (fun n => if n < h.length then m n else p) (h ++ [o]) (upd H p u) := ⟨e1, by rw [List.length_append]; exact Nat.le_add_right _ _, TK.upd hp⟩
  have ne : ∀ i o', h[i]? = some o' → isFz o' = false → m i ≠ p := fun i o' hi f z => by
    obtain ⟨w, hw, _⟩ := (r.obj i o' hi).there f
    rw [z, hp] at hw
    cases hw
  have old : ∀ {n o'}, (h ++ [o])[n]? = some o' → n < h.length ∧ h[n]? = some o' ∨ n = h.length ∧ o' = o := fun {n o'} hn => by
    by_cases hl : n < h.length
    · rw [List.getElem?_append_left hl] at hn
      exact .inl ⟨hl, hn⟩
    · have hn' := (List.getElem?_eq_some_iff.mp hn).1
      rw [List.length_append, List.length_singleton] at hn'
      have en : n = h.length := by omega
      subst en
      rw [List.getElem?_append_right (Nat.le_refl _), Nat.sub_self] at hn
      exact .inr ⟨rfl, (Option.some.inj hn).symm⟩
  refine ⟨g, ⟨fun n o' hn => ?_, fun i j o1 o2 h1 h2 f1 f2 e => ?_⟩, ?_⟩
  · rcases old hn with ⟨hl, hn⟩ | ⟨rfl, rfl⟩
    · simp only [if_pos hl]
      exact (r.obj n o' hn).mono g fun f => upd_ne (ne n o' hn f)
    · simp only [if_neg (Nat.lt_irrefl _), List.length_append, List.length_singleton]
      exact ho _ e1 e2
  · rcases old h1 with ⟨hi, k1⟩ | ⟨rfl, rfl⟩ <;> rcases old h2 with ⟨hj, k2⟩ | ⟨rfl, rfl⟩
    · simp only [if_pos hi, if_pos hj] at e
      exact r.inj i j o1 o2 k1 k2 f1 f2 e
    · simp only [if_pos hi, if_neg (Nat.lt_irrefl _)] at e
      exact absurd e (ne i o1 k1 f1)
    · simp only [if_pos hj, if_neg (Nat.lt_irrefl _)] at e
      exact absurd e.symm (ne j o2 k2 f2)
    · rfl
  · have hl : h.length < (h ++ [o]).length := by rw [List.length_append]; exact Nat.lt_succ_self _
    have q := RD.ref (K := T.K) (m := fun n => if n < h.length then m n else p) (H := upd H p u) hl
    simp only [if_neg (Nat.lt_irrefl _)] at q
    exact q
theorem RH.lay {m : Nat → Addr} {h : Hh} {H : Hp} {p : Addr} {u : HO} (r : RH T m h H) (hp : H p = none) : Ge m h H m h (upd H p u) ∧ RH T m h (upd H p u) := by
  have g : Ge m h H m h (upd H p u) := ⟨fun _ _ => rfl, Nat.le_refl _, TK.upd hp⟩
  refine ⟨g, ⟨fun n o hn => (r.obj n o hn).mono g fun f => ?_, r.inj⟩⟩
  obtain ⟨w, hw, _⟩ := (r.obj n o hn).there f
  exact upd_ne (ne_of_none hw hp)
theorem RH.put {m : Nat → Addr} {h : Hh} {H : Hp} {n : Nat} {u w : HO} {o o₀ : O} (r : RH T m h H) (hn : h[n]? = some o₀) (hf : isFz o₀ = false) (hf' : isFz o = false) (hw : H (m n) = some w) (n1 : ∀ xs, w ≠ .tup xs) (n2 : ∀ o xs, w ≠ .frz o xs) (n3 : ∀ xs, w ≠ .xd xs) (n4 : ∀ lo hi, w ≠ .rng lo hi)
    (ho : RO T m h.length (upd H (m n) u) (m n) o) : Ge m h H m (h.set n o) (upd H (m n) u) ∧ RH T m (h.set n o) (upd H (m n) u) := by
  have g : Ge m h H m (h.set n o) (upd H (m n) u) := ⟨fun _ _ => rfl, Nat.le_of_eq (List.length_set ..).symm, TK.set hw n1 n2 n3 n4⟩
  have hl := (List.getElem?_eq_some_iff.mp hn).1
  have old : ∀ {i o'}, (h.set n o)[i]? = some o' → n ≠ i ∧ h[i]? = some o' ∨ n = i ∧ o' = o := fun {i o'} hi => by
    by_cases hin : n = i
    · subst hin
      rw [List.getElem?_set_self hl] at hi
      exact .inr ⟨rfl, (Option.some.inj hi).symm⟩
    · rw [List.getElem?_set_ne hin] at hi
      exact .inl ⟨hin, hi⟩
  refine ⟨g, ⟨fun i o' hi => ?_, fun i j o1 o2 h1 h2 f1 f2 e => ?_⟩⟩
  · rcases old hi with ⟨hin, hi⟩ | ⟨rfl, rfl⟩
    · exact (r.obj i o' hi).mono g fun f => upd_ne fun e => hin (r.inj i n o' o₀ hi hn f hf e).symm
    · rw [List.length_set]
      exact ho
  · rcases old h1 with ⟨hi, k1⟩ | ⟨rfl, rfl⟩ <;> rcases old h2 with ⟨hj, k2⟩ | ⟨rfl, rfl⟩
    · exact r.inj i j o1 o2 k1 k2 f1 f2 e
    · exact r.inj i _ o1 o₀ k1 hn f1 hf e
    · exact r.inj _ j o₀ o2 hn k2 hf f2 e
    · rfl
theorem RH.lst {m : Nat → Addr} {h : Hh} {H : Hp} {n : Nat} {ds : List D} (r : RH T m h H) (e : lstAt h n = some ds) : n < h.length ∧ ∃ vs, SqL T.K H (m n) vs ∧ RDs T.K m h.length H ds vs := by
  unfold lstAt at e
  cases q : h[n]? with
  | none => rw [q] at e; cases e
  | some o =>
    refine ⟨(List.getElem?_eq_some_iff.mp q).1, ?_⟩
    rw [q] at e
    have ro := r.obj n o q
    cases o with
    | lst xs =>
      obtain ⟨vs, q1, q2⟩ := ro
      cases e
      exact ⟨vs, .inl (.inl q1), q2⟩
    | frz xs =>
      obtain ⟨vs, q1, q2⟩ := ro
      cases e
      exact ⟨vs, q1.seq, q2⟩
    | ins c fs => cases e
theorem RH.mut {m : Nat → Addr} {h : Hh} {H : Hp} {n : Nat} {ds : List D} (r : RH T m h H) (e : h[n]? = some (.lst ds)) : n < h.length ∧ ∃ vs, H (m n) = some (.lst vs) ∧ RDs T.K m h.length H ds vs :=
  ⟨(List.getElem?_eq_some_iff.mp e).1, r.obj n _ e⟩
theorem RH.newL {m : Nat → Addr} {h : Hh} {H : Hp} {p : Addr} {ds : List D} {vs : List V} (r : RH T m h H) (hp : H p = none) (q : RDs T.K m h.length H ds vs) :
    ∃ m', Ge m h H m' (h ++ [.lst ds]) (upd H p (.lst vs)) ∧ RH T m' (h ++ [.lst ds]) (upd H p (.lst vs)) ∧ RD T.K m' (h ++ [O.lst ds]).length (upd H p (.lst vs)) (.ref h.length) (.ref p) :=
  r.new hp fun m' e1 e2 => ⟨vs, upd_same, q.mono (TK.upd hp) e1 (Nat.le_succ _)⟩
theorem RH.putL {m : Nat → Addr} {h : Hh} {H : Hp} {n : Nat} {ds es : List D} {vs : List V} {ws : List V} (r : RH T m h H) (hn : h[n]? = some (.lst es)) (hw : H (m n) = some (.lst ws)) (q : RDs T.K m h.length H ds vs) :
    Ge m h H m (h.set n (.lst ds)) (upd H (m n) (.lst vs)) ∧ RH T m (h.set n (.lst ds)) (upd H (m n) (.lst vs)) :=
  r.put hn rfl rfl hw (fun _ z => by cases z) (fun _ _ z => by cases z) (fun _ z => by cases z) (fun _ _ z => by cases z) ⟨vs, upd_same, q.mono (TK.set hw (fun _ z => by cases z) (fun _ _ z => by cases z) (fun _ z => by cases z) (fun _ _ z => by cases z)) (fun _ _ => rfl) (Nat.le_refl _)⟩
theorem RH.ex {T : Fx} {o : Xs} {m : Nat → Addr} {h : Hh} {H : Hp} (r : RH T m h H) : RH ⟨T.K, T.cv, T.fn, o⟩ m h H := ⟨fun n o hn => r.obj n o hn, r.inj⟩
theorem PSo.flow {T : Fx} {W W' : WX} {D : Ends} {m : Nat → Addr} {h : Hh} {H : Hp} {f : F} {e : Ev} {h' : Hh} (p : PSo T W D m h H (.go f e h')) : PSo T W' D m h H (.go f e h') := by
  cases f <;> exact p
end
end Mn
namespace Mn
open PySem L2
abbrev FX (X : Cx) (cv : Nat → Value) (fn : Nat → Str) (xs : Xs) : Fx := ⟨X.K, cv, fn, xs⟩
theorem peImp {X : Cx} {e : Expr} {t t' : TE} (h : PE X e t) (w : ∀ σ H Q, t' σ H Q → t σ H Q) : PE X e t' := ⟨fun pins s σ H Q I q => h.run pins s σ H Q I (w σ H Q q)⟩
theorem ptImp {X : Cx} {e : Expr} {t t' : TT} (h : PT X e t) (w : ∀ σ H Q, t' σ H Q → t σ H Q) : PT X e t' := ⟨fun pins s σ H Q I q => h.run pins s σ H Q I (w σ H Q q)⟩
theorem paImp {X : Cx} {e : List Expr} {t t' : TA} (h : PA X e t) (w : ∀ σ H Q, t' σ H Q → t σ H Q) : PA X e t' := ⟨fun pos pins s σ H Q I q => h.run pos pins s σ H Q I (w σ H Q q)⟩
theorem psImp {X : Cx} {e : Stmt} {t t' : TS} (h : PS X e t) (w : ∀ D σ H, t' D σ H → t D σ H) : PS X e t' := ⟨fun pins s σ H D I q => h.run pins s σ H D I (w D σ H q)⟩
theorem pssImp {X : Cx} {e : List Stmt} {t t' : TS} (h : PSs X e t) (w : ∀ D σ H, t' D σ H → t D σ H) : PSs X e t' := ⟨fun pins s σ H D I q => h.run pins s σ H D I (w D σ H q)⟩
abbrev rdR (T : Fx) : (Nat → Addr) → Nat → Hp → D → V → Prop := fun m N H d v => RD T.K m N H d v
def r2 (T : Fx) (g : D → D → Hh → R D) : R2 := fun x y H Q => ∃ (W : WX) (σ : L2.St) (m : Nat → Addr) (h : Hh) (a b : D), RH T m h H ∧ RD T.K m h.length H a x ∧ RD T.K m h.length H b y ∧ PO T W (rdR T) σ m h H (g a b h) Q
def r1 (T : Fx) (g : D → Hh → R D) : V → Hp → VK → Prop := fun x H Q => ∃ (W : WX) (σ : L2.St) (m : Nat → Addr) (h : Hh) (a : D), RH T m h H ∧ RD T.K m h.length H a x ∧ PO T W (rdR T) σ m h H (g a h) Q
def rN (T : Fx) (g : FD) : List V → Hp → VK → Prop := fun xs H Q => ∃ (W : WX) (σ : L2.St) (m : Nat → Addr) (h : Hh) (ds : List D), RH T m h H ∧ RDs T.K m h.length H ds xs ∧ PO T W (rdR T) σ m h H (g ds h) Q
def rM (T : Fx) (g : D → List D → Hh → R D) : V → List V → Hp → VK → Prop := fun x xs H Q => ∃ (W : WX) (σ : L2.St) (m : Nat → Addr) (h : Hh) (d : D) (ds : List D), RH T m h H ∧ RD T.K m h.length H d x ∧ RDs T.K m h.length H ds xs ∧ PO T W (rdR T) σ m h H (g d ds h) Q
section
variable {T : Fx} {W : WX}
theorem bind2 {fa fb : ED} {g : D → D → Hh → R D} {σ : L2.St} {H : Hp} {Q : VK} (h : PE_ T W (fun e h => (fa e h).bind fun x h1 => (fb e h1).bind fun y h2 => g x y h2) σ H Q) :
    PE_ T W fa σ H fun x H1 => PE_ T W fb σ H1 fun y H2 => r2 T g x y H2 Q := by
  obtain ⟨m, e, h, rh, re, p⟩ := h
  refine ⟨m, e, h, rh, re, p.bind fun a h1 m1 H1 x g1 rh1 ra p1 => ⟨m1, e, h1, rh1, g1.re re, p1.bind fun b h2 m2 H2 y g2 rh2 rb p2 => ?_⟩⟩
  exact ⟨W, σ, m2, h2, a, b, rh2, g2.rd ra, rb, p2⟩
theorem bind1 {fa : ED} {g : D → Hh → R D} {σ : L2.St} {H : Hp} {Q : VK} (h : PE_ T W (fun e h => (fa e h).bind fun x h1 => g x h1) σ H Q) :
    PE_ T W fa σ H fun x H1 => r1 T g x H1 Q := by
  obtain ⟨m, e, h, rh, re, p⟩ := h
  exact ⟨m, e, h, rh, re, p.bind fun a h1 m1 H1 x g1 rh1 ra p1 => ⟨W, σ, m1, h1, a, rh1, ra, p1⟩⟩
theorem PO.here {α β : Type} {RA : (Nat → Addr) → Nat → Hp → α → β → Prop} {σ : L2.St} {m : Nat → Addr} {h : Hh} {H : Hp} {a : α} {b : β} {Q : β → Hp → Prop} (p : PO T W RA σ m h H (.ok a h) Q) (rh : RH T m h H) (ra : RA m h.length H a b) : Q b H :=
  p m H b Ge.refl rh ra
theorem PO.new {σ : L2.St} {m : Nat → Addr} {h : Hh} {H : Hp} {ds : List D} {vs : List V} {Q : VK} (p : PO T W (rdR T) σ m h H (.ok (.ref h.length) (h ++ [.lst ds])) Q) (rh : RH T m h H) (r : RDs T.K m h.length H ds vs) :
    ∀ q, H q = none → Q (.ref q) (upd H q (.lst vs)) := fun q hq => by
  obtain ⟨m', g, rh', rd⟩ := rh.newL hq r
  exact p m' _ _ g rh' rd
theorem PO.newT {σ : L2.St} {m : Nat → Addr} {h : Hh} {H : Hp} {ds : List D} {vs : List V} {Q : VK} (p : PO T W (rdR T) σ m h H (.ok (.tup ds) h) Q) (rh : RH T m h H) (r : RDs T.K m h.length H ds vs) :
    ∀ q, H q = none → Q (.ref q) (upd H q (.tup vs)) := fun q hq => by
  obtain ⟨g, rh'⟩ := rh.lay (u := .tup vs) hq
  exact p m _ _ g rh' (.tup (.inl (.inl upd_same)) (g.rds r))
end
section
variable {X : Cx} {cv : Nat → Value} {fn : Nat → Str} {xs : Xs} {W : WX} {pos : Pos} {a b c : Expr} {fa fb fc : ED}
theorem s_c {d : D} {v : V} {e : Expr} (h : PE X e (tC v)) (r : ∀ m N H, RD X.K m N H d v) : PE X e (PE_ (FX X cv fn xs) W (dC d)) :=
  peImp h fun σ H Q q => by
    obtain ⟨m, e, h, rh, re, p⟩ := q
    exact p m H v Ge.refl rh (r _ _ _)
theorem s_v {i : Nat} {x : Str} (hN : X.N[i]? = some x) (hv : Vis X.env.scope x) (hd : (x == ("__debug__" : Str)) = false) (hcd : (x == ("__classdict__" : Str)) = false) : PE X (.Name x pos) (PE_ (FX X cv fn xs) W (dV i)) :=
  peImp (pe_var hN hv hd hcd) fun σ H Q q => by
    obtain ⟨m, e, h, rh, re, p⟩ := q
    unfold dV at p
    split at p
    · rename_i d hd
      obtain ⟨v, h1, h2⟩ := re.at_ i d hd
      exact ⟨v, h1, p m H v Ge.refl rh h2⟩
    · exact p.elim
theorem op_mulG : OpR X (binaryOp .Mult) (rI (fun i j => i.natAbs.log2 + j.natAbs.log2 < 100000000) fun i j => .int (i * j)) := opI fun i j _ _ _ _ _ hc q => PyProof.Rows.mul_int q (by
  have b : ∀ x : Int, Builtin.Int.intBits x ≤ x.natAbs.log2 + 1 := fun x => by
    unfold Builtin.Int.intBits
    split <;> omega
  have h1 := b i
  have h2 := b j
  have e : bitsLine = 134217728 := by decide
  intro z
  rw [Bool.and_eq_true] at z
  have z2 := z.2
  unfold Builtin.Int.intTooBig at z2
  have z3 := of_decide_eq_true z2
  rw [e] at z3
  omega)
theorem op_fdivG : OpR X (binaryOp .FloorDiv) (rI (fun _ j => j ≠ 0 ∧ j.natAbs.log2 < 9000) fun i j => .int (i.fdiv j)) := opI fun _ _ _ _ _ _ _ hc q => PyProof.Rows.floordiv_int hc.1 q (.inl (PyProof.noPylong_of_log2 hc.2))
theorem rep_arr (c : Array Nat) : ∀ (k : Nat) (acc : Array Nat), ((List.replicate k c).foldl (· ++ ·) acc).size = acc.size + c.size * k
  | 0, acc => by rw [Nat.mul_zero]; rfl
  | k + 1, acc => by
    rw [List.replicate_succ, List.foldl_cons, rep_arr c k, Array.size_append, Nat.mul_succ]
    omega
theorem rep_len (a : Str) (k : Nat) : (repS a k).length = a.length * k := by
  show ((List.replicate k a.cps).foldl (· ++ ·) #[]).size = _
  rw [rep_arr]
  exact Nat.zero_add _
theorem o_bin (op : Operator) : OpR X (binaryOp op) (r2 (FX X cv fn xs) (bop op)) := by
  intro pins s σ0 H x y v u Q I rx ry hh
  obtain ⟨W, σ, m, h, d1, d2, rh, ra, rb, p⟩ := hh
  unfold bop at p
  split at p
  · cases ra; cases rb; exact op_add pins s σ0 H _ _ v u Q I rx ry ⟨_, _, rfl, rfl, p.here rh (.int _)⟩
  · cases ra; cases rb; exact op_sub pins s σ0 H _ _ v u Q I rx ry ⟨_, _, rfl, rfl, p.here rh (.int _)⟩
  · cases ra; cases rb
    split at p
    · exact op_mulG pins s σ0 H _ _ v u Q I rx ry ⟨_, _, rfl, rfl, by assumption, p.here rh (.int _)⟩
    · exact p.elim
  · cases ra; cases rb
    split at p
    · exact op_fdivG pins s σ0 H _ _ v u Q I rx ry ⟨_, _, rfl, rfl, by assumption, p.here rh (.int _)⟩
    · exact p.elim
  · cases ra; cases rb
    split at p
    · exact op_modN pins s σ0 H _ _ v u Q I rx ry ⟨_, _, rfl, rfl, by assumption, p.here rh (.int _)⟩
    · exact p.elim
  · cases ra; cases rb
    split at p
    · exact op_pow pins s σ0 H _ _ v u Q I rx ry ⟨_, _, rfl, rfl, by assumption, p.here rh (.int _)⟩
    · exact p.elim
  · cases ra; cases rb
    split at p
    · exact op_shl pins s σ0 H _ _ v u Q I rx ry ⟨_, _, rfl, rfl, by assumption, p.here rh (.int _)⟩
    · exact p.elim
  · cases ra; cases rb
    split at p
    · exact op_shr pins s σ0 H _ _ v u Q I rx ry ⟨_, _, rfl, rfl, by assumption, p.here rh (.int _)⟩
    · exact p.elim
  · cases ra; cases rb; exact op_and pins s σ0 H _ _ v u Q I rx ry ⟨_, _, rfl, rfl, p.here rh (.int _)⟩
  · cases ra; cases rb; exact op_or pins s σ0 H _ _ v u Q I rx ry ⟨_, _, rfl, rfl, p.here rh (.int _)⟩
  · cases ra; cases rb
    split at p
    · exact op_add_str pins s σ0 H _ _ v u Q I rx ry ⟨_, _, rfl, rfl, by rw [sizeLine_eq]; assumption, p.here rh (.str _)⟩
    · exact p.elim
  · cases ra with
    | tup s1 q1 => cases rb with
      | tup s2 q2 =>
        split at p
        · rename_i hz
          refine op_catA pins s σ0 H _ _ v u Q I rx ry ⟨_, _, _, _, rfl, rfl, s1, s2, ?_, fun z => ?_, fun _ z => ?_, fun _ _ => p.newT rh (q1.append q2)⟩
          · rw [sizeLine_eq, ← q1.length, ← q2.length]; exact hz
          · subst z
            cases q1
            rw [List.nil_append] at p
            exact p.here rh (.tup s2 q2)
          · subst z
            cases q2
            rw [List.append_nil] at p
            exact p.here rh (.tup s1 q1)
        · exact p.elim
  · cases ra with
    | ref h1 => cases rb with
      | ref h2 =>
        split at p
        · rename_i a b ea eb
          split at p
          · rename_i hz
            obtain ⟨_, vs, q1, r1⟩ := rh.mut ea
            obtain ⟨_, ws, q2, r2⟩ := rh.mut eb
            exact op_cat pins s σ0 H _ _ v u Q I rx ry ⟨_, _, _, _, rfl, rfl, q1, q2, by rw [sizeLine_eq, ← r1.length, ← r2.length]; exact hz, p.new rh (r1.append r2)⟩
          · exact p.elim
        · exact p.elim
  · cases ra with
    | ref h1 =>
      cases rb
      split at p
      · rename_i a ea
        split at p
        · rename_i hz
          obtain ⟨_, vs, q1, r1⟩ := rh.mut ea
          exact op_rep pins s σ0 H _ _ v u Q I rx ry ⟨_, _, _, rfl, rfl, q1, hz.1, hz.2.1, by rw [sizeLine_eq, ← r1.length]; exact hz.2.2, p.new rh (r1.rep _)⟩
        · exact p.elim
      · exact p.elim
  · cases ra; cases rb
    split at p
    · rename_i a k hz
      obtain ⟨t, rfl⟩ := rx
      obtain ⟨t', rfl⟩ := ry
      have hk : ¬ k < 1 := by omega
      have h0 : (k == 1 || a.length == 0) = false := by
        rw [Bool.or_eq_false_iff, beq_eq_false_iff_ne, beq_eq_false_iff_ne]
        omega
      have hm : a.length * k.toNat ≤ 1000 * 10000 := Nat.mul_le_mul hz.2.2.2 (by omega)
      refine PySem.P.mul_str ?_ (fun _ _ => ?_) (fun _ _ => ?_) ?_
      · rw [decide_eq_false (by omega), decide_eq_false (by omega)]; rfl
      · refine Int.not_lt.mpr (Int.le_ediv_of_mul_le (by omega) ?_)
        have e : ((a.length : Int)) * k = ((a.length * k.toNat : Nat) : Int) := by
          rw [Int.natCast_mul, Int.toNat_of_nonneg (by omega)]
        rw [e]
        omega
      · unfold Builtin.Str.tooLong
        rw [decide_eq_false_iff_not, sizeLine_eq]
        omega
      · rw [if_neg hk, if_neg (by rw [h0]; exact Bool.false_ne_true)]
        refine ⟨?_, ⟨.str _, H, I.tok _, ⟨_, rfl⟩, p.here rh (.str _)⟩⟩
        show (repS a k.toNat).length ≤ sizeLine
        rw [rep_len, sizeLine_eq]
        omega
    · exact p.elim
  · exact p.elim
theorem s_bin {op : Operator} (ha : PE X a (PE_ (FX X cv fn xs) W fa)) (hb : PE X b (PE_ (FX X cv fn xs) W fb)) : PE X (.BinOp a op b pos) (PE_ (FX X cv fn xs) W (dB op fa fb)) :=
  peImp (pe_op (o_bin op) ha hb) fun _ _ _ q => bind2 q
theorem o_un (op : UnaryOp) : UnR X (unaryOp op) (r1 (FX X cv fn xs) (uop op)) := by
  intro pins s σ0 H x v Q I rx hh
  obtain ⟨W, σ, m, h, d1, rh, ra, p⟩ := hh
  unfold uop at p
  split at p
  · cases ra; exact un_neg pins s σ0 H _ v Q I rx ⟨_, rfl, p.here rh (.int _)⟩
  · exact p.elim
theorem s_un {op : UnaryOp} (ha : PE X a (PE_ (FX X cv fn xs) W fa)) : PE X (.UnaryOp op a pos) (PE_ (FX X cv fn xs) W (dU op fa)) :=
  peImp (pe_un (o_un op) ha) fun _ _ _ q => bind1 q
end
end Mn
namespace Mn
open PySem L2
section
variable {T : Fx} {m : Nat → Addr} {h : Hh} {H : Hp}
theorem allS_dp (f : D → Option PyData) (ih : ∀ d v pd, f d = some pd → RD T.K m h.length H d v → Dp T.K H v pd) :
    ∀ (ds : List D) (vs : List V) (ps : List PyData), allS f ds = some ps → RDs T.K m h.length H ds vs → DpAll T.K H vs ps
  | [], _, _, e, r => by cases r; cases e; exact .nil
  | d :: ds, _, ps, e, r => by
    cases r with
    | cons r1 r2 =>
      unfold allS at e
      split at e
      · rename_i x xs e1 e2
        cases e
        exact .cons (ih _ _ _ e1 r1) (allS_dp f ih ds _ _ e2 r2)
      · cases e
theorem toPD_dp (rh : RH T m h H) : ∀ (k : Nat) (d : D) (v : V) (pd : PyData), toPD h k d = some pd → RD T.K m h.length H d v → Dp T.K H v pd
  | 0, d, v, pd, e, r => by
    cases d <;> first
      | (cases r; cases e; first | exact .non | exact .bl _ | exact .int _ | exact .str _)
      | (simp [toPD] at e)
  | k + 1, d, v, pd, e, r => by
    cases d with
    | non => cases r; cases e; exact .non
    | bl b => cases r; cases e; exact .bl _
    | int b => cases r; cases e; exact .int _
    | str b => cases r; cases e; exact .str _
    | tup ds =>
      cases r with
      | tup s q =>
        simp only [toPD] at e
        obtain ⟨ps, e1, rfl⟩ := Option.map_eq_some_iff.mp e
        exact .tup s (allS_dp _ (toPD_dp rh k) _ _ _ e1 q)
    | ref n =>
      cases r
      simp only [toPD] at e
      split at e
      · rename_i ds e0
        obtain ⟨ps, e1, rfl⟩ := Option.map_eq_some_iff.mp e
        obtain ⟨_, vs, s, q⟩ := rh.lst e0
        exact .lst s (allS_dp _ (toPD_dp rh k) _ _ _ e1 q)
      · cases e
    | rg lo hi => cases e
theorem flat_rd {d : D} {v : V} (r : RD T.K m h.length H d v) (f : flatD d = true) : flatV v = true := by
  cases r <;> first | rfl | cases f
theorem eqF_rd {d e : D} {v w : V} (r : RD T.K m h.length H d v) (q : RD T.K m h.length H e w) (f : flatD d = true) (g : flatD e = true) : eqV v w = eqF d e := by
  cases r <;> first | (cases f; done) | (cases q <;> first | rfl | cases g)
theorem flat_all : ∀ {ds : List D} {vs : List V}, RDs T.K m h.length H ds vs → ds.all flatD = true → vs.all flatV = true
  | _, _, .nil, _ => rfl
  | _, _, .cons a b, f => by
    rw [List.all_cons, Bool.and_eq_true] at f ⊢
    exact ⟨flat_rd a f.1, flat_all b f.2⟩
theorem any_rd {d : D} {v : V} (r : RD T.K m h.length H d v) (f : flatD d = true) : ∀ {ds : List D} {vs : List V}, RDs T.K m h.length H ds vs → ds.all flatD = true → (vs.any fun y => eqV y v) = ds.any fun y => eqF y d
  | _, _, .nil, _ => rfl
  | _, _, .cons a b, g => by
    rw [List.all_cons, Bool.and_eq_true] at g
    rw [List.any_cons, List.any_cons, any_rd r f b g.2, eqF_rd a r g.1 f]
theorem inD_rd {d : D} {v : V} {ds : List D} {vs : List V} {k : Bool} (r : RD T.K m h.length H d v) (q : RDs T.K m h.length H ds vs) (e : inD h d ds = some k) : flatV v = true ∧ vs.all flatV = true ∧ inV v vs = k := by
  unfold inD at e
  split at e
  · rename_i hc
    cases e
    exact ⟨flat_rd r hc.1, flat_all q hc.2, any_rd r hc.1 q hc.2⟩
  · cases e
theorem inA_of {x c : D} {ys : List D} {k : Bool} (e : inA h x c ys = some k) : inD h x ys = some k ∨ inS h x c = some k := by
  unfold inA at e
  split at e
  · rename_i b e1
    cases e
    exact .inl e1
  · exact .inr e
def rInS (K : PySem.W.Frag) (no : Bool) : R2 := fun x y H Q => ∃ (d : PyData) (ds : List PyData), Dp K H x d ∧ SeqAt.shaped d = true ∧ ((Dp K H y (.list ds) ∧ SeqAt.shaped (.list ds) = true) ∨ (Dp K H y (.tuple ds) ∧ SeqAt.shaped (.tuple ds) = true)) ∧ Q (.bl (if no = true then !(ds.any fun z => PyData.eqv z d) else ds.any fun z => PyData.eqv z d)) H
theorem inS_rd (rh : RH T m h H) {x c : D} {v w : V} {k : Bool} {no : Bool} {Q : VK} (r : RD T.K m h.length H x v) (rc : RD T.K m h.length H c w) (e : inS h x c = some k) (q : Q (.bl (if no = true then !k else k)) H) : rInS T.K no v w H Q := by
  unfold inS at e
  split at e
  · rename_i ps p e1 e2
    split at e
    · rename_i hs
      cases e
      exact ⟨p, ps, toPD_dp rh _ _ _ _ e2 r, hs.1, .inl ⟨toPD_dp rh _ _ _ _ e1 rc, hs.2⟩, q⟩
    · cases e
  · rename_i ps p e1 e2
    split at e
    · rename_i hs
      cases e
      exact ⟨p, ps, toPD_dp rh _ _ _ _ e2 r, hs.1, .inr ⟨toPD_dp rh _ _ _ _ e1 rc, hs.2⟩, q⟩
    · cases e
  · cases e
theorem isNon_rd {d : D} {v : V} (r : RD T.K m h.length H d v) : decide (v = V.non) = isNon d := by
  cases r <;> simp [isNon]
theorem atI_rd {ds : List D} {vs : List V} {i : Int} {d : D} (r : RDs T.K m h.length H ds vs) (e : atI ds i = some d) : ∃ v, atI vs i = some v ∧ RD T.K m h.length H d v := by
  unfold atI at e ⊢
  rw [← r.length]
  cases q : ixN ds.length i with
  | none => rw [q] at e; cases e
  | some j =>
    rw [q] at e
    exact r.get e
end
section
variable {X : Cx} {cv : Nat → Value} {fn : Nat → Str} {xs : Xs} {W : WX} {pos : Pos} {a b c : Expr} {fa fb fc : ED}
theorem PO.ofB {T : Fx} {W : WX} {σ : L2.St} {m : Nat → Addr} {h : Hh} {H : Hp} {o : Option Bool} {f : Bool → Bool} {Q : VK} (p : PO T W (rdR T) σ m h H (ofB o f h) Q) (rh : RH T m h H) : ∃ k, o = some k ∧ Q (.bl (f k)) H := by
  cases o with
  | none => exact p.elim
  | some k => exact ⟨k, rfl, PO.here p rh (.bl _)⟩
theorem op_inS (hu : X.A.units + 65 < cLine) (no : Bool) : OpR X (compareOp (if no = true then .NotIn else .In)) (rInS X.K no) := by
  intro pins s σ H x y v u Q I rx ry hh
  obtain ⟨d, ds, hd, sd, hy, q⟩ := hh
  obtain ⟨as, r1⟩ := Dp.reads I d x v hd rx
  rcases hy with ⟨hl, sl⟩ | ⟨hl, sl⟩
  · obtain ⟨bs, r2⟩ := Dp.reads I (.list ds) y u hl ry
    cases no with
    | false => exact SeqAt.in_list_reads r2 r1 (SeqAt.canLay_of_shaped sl) (SeqAt.canLay_of_shaped sd) (PyProof.Rows.room_in_shaped sd hu) ⟨.bl _, H, I, rfl, q⟩
    | true => exact SeqAt.notIn_list_reads r2 r1 (SeqAt.canLay_of_shaped sl) (SeqAt.canLay_of_shaped sd) (PyProof.Rows.room_in_shaped sd hu) ⟨.bl _, H, I, rfl, q⟩
  · obtain ⟨bs, r2⟩ := Dp.reads I (.tuple ds) y u hl ry
    cases no with
    | false => exact SeqAt.in_tuple_reads r2 r1 (SeqAt.canLay_of_shaped sl) (SeqAt.canLay_of_shaped sd) (PyProof.Rows.room_in_shaped sd hu) ⟨.bl _, H, I, rfl, q⟩
    | true => exact SeqAt.notIn_tuple_reads r2 r1 (SeqAt.canLay_of_shaped sl) (SeqAt.canLay_of_shaped sd) (PyProof.Rows.room_in_shaped sd hu) ⟨.bl _, H, I, rfl, q⟩
theorem is_bl (pins : List (Addr × Obj)) (s : Shared) (σ : L2.St) (H : Hp) (v u : Value) (Q : VK) (I : Inv X pins σ H s) {a b : Bool} (rx : RelV (.bl a) v) (ry : RelV (.bl b) u) (no : Bool) (c : CmpOp) (hc : c = if no = true then .IsNot else .Is) (q : Q (.bl (if no = true then !(a == b) else (a == b))) H) :
    wpAny (model X.prog X.w) X.A (compareOp c v u) (EP X pins σ Q) X.xe s := by
  subst hc
  obtain rfl : v = Value.bool a := rx
  obtain rfl : u = Value.bool b := ry
  have e : (Value.bool a == Value.bool b) = (a == b) := by cases a <;> cases b <;> rfl
  cases no with
  | false => exact wpAny_is_plain rfl ⟨.bl (a == b), H, I, by rw [e]; rfl, q⟩
  | true => exact wpAny_isNot_plain rfl ⟨.bl (!(a == b)), H, I, by rw [e]; rfl, q⟩
theorem o_cmp (hu : X.A.units + 65 < cLine) (op : CmpOp) : OpR X (compareOp op) (r2 (FX X cv fn xs) (bcmp op)) := by
  intro pins s σ0 H x y v u Q I rx ry hh
  obtain ⟨W, σ, m, h, d1, d2, rh, ra, rb, p⟩ := hh
  have hu4 : X.A.units + 64 < cLine := by omega
  unfold bcmp at p
  split at p
  · obtain ⟨k, e, q⟩ := p.ofB rh
    unfold eqD at e
    split at e
    · cases ra; cases rb; cases e
      refine op_eq pins s σ0 H _ _ v u Q I rx ry ⟨rfl, ?_⟩
      rw [dec_int, ← Bool.beq_eq_decide_eq] at *
      exact q
    · cases ra; cases rb; cases e
      refine op_eq pins s σ0 H _ _ v u Q I rx ry ⟨rfl, ?_⟩
      rw [dec_str, ← Bool.beq_eq_decide_eq] at *
      exact q
    · cases ra; cases rb; cases e
      refine op_eq pins s σ0 H _ _ v u Q I rx ry ⟨rfl, ?_⟩
      rw [dec_bl, ← Bool.beq_eq_decide_eq] at *
      exact q
    · split at e
      · rename_i e1 e2
        split at e
        · rename_i hs
          cases e
          exact op_eqD hu4 pins s σ0 H _ _ v u Q I rx ry ⟨_, _, toPD_dp rh 12 _ _ _ e1 ra, toPD_dp rh 12 _ _ _ e2 rb, hs.1, hs.2, q⟩
        · cases e
      · cases e
  · obtain ⟨k, e, q⟩ := p.ofB rh
    unfold eqD at e
    split at e
    · cases ra; cases rb; cases e
      refine op_ne pins s σ0 H _ _ v u Q I rx ry ⟨rfl, ?_⟩
      rw [dec_int, ← Bool.beq_eq_decide_eq] at *
      exact q
    · cases ra; cases rb; cases e
      refine op_ne pins s σ0 H _ _ v u Q I rx ry ⟨rfl, ?_⟩
      rw [dec_str, ← Bool.beq_eq_decide_eq] at *
      exact q
    · cases ra; cases rb; cases e
      refine op_ne pins s σ0 H _ _ v u Q I rx ry ⟨rfl, ?_⟩
      rw [dec_bl, ← Bool.beq_eq_decide_eq] at *
      exact q
    · split at e
      · rename_i e1 e2
        split at e
        · rename_i hs
          cases e
          exact op_neD hu4 pins s σ0 H _ _ v u Q I rx ry ⟨_, _, toPD_dp rh 12 _ _ _ e1 ra, toPD_dp rh 12 _ _ _ e2 rb, hs.1, hs.2, q⟩
        · cases e
      · cases e
  · cases ra; cases rb; exact op_lt pins s σ0 H _ _ v u Q I rx ry ⟨_, _, rfl, rfl, p.here rh (.bl _)⟩
  · cases ra; cases rb; exact op_le pins s σ0 H _ _ v u Q I rx ry ⟨_, _, rfl, rfl, p.here rh (.bl _)⟩
  · cases ra; cases rb; exact op_gt pins s σ0 H _ _ v u Q I rx ry ⟨_, _, rfl, rfl, p.here rh (.bl _)⟩
  · cases ra; cases rb; exact op_ge pins s σ0 H _ _ v u Q I rx ry ⟨_, _, rfl, rfl, p.here rh (.bl _)⟩
  · cases rb
    refine op_isN pins s σ0 H _ _ v u Q I rx ry ⟨rfl, ?_⟩
    rw [isNon_rd ra]
    exact p.here rh (.bl _)
  · cases rb
    refine op_notN pins s σ0 H _ _ v u Q I rx ry ⟨rfl, ?_⟩
    rw [isNon_rd ra]
    exact p.here rh (.bl _)
  · cases ra; cases rb; exact op_in_str pins s σ0 H _ _ v u Q I rx ry ⟨_, _, rfl, rfl, p.here rh (.bl _)⟩
  · cases ra; cases rb; exact op_notin_str pins s σ0 H _ _ v u Q I rx ry ⟨_, _, rfl, rfl, p.here rh (.bl _)⟩
  · have rb0 := rb
    cases rb
    split at p
    · rename_i e
      obtain ⟨k, e2, q⟩ := p.ofB rh
      obtain ⟨_, vs, sq, r⟩ := rh.lst e
      rcases inA_of e2 with e2 | e2
      · obtain ⟨f1, f2, f3⟩ := inD_rd ra r e2
        exact op_in_seq pins s σ0 H _ _ v u Q I rx ry ⟨_, vs, rfl, .inl sq, f1, f2, by rw [if_neg Bool.false_ne_true, f3]; exact q⟩
      · exact op_inS hu false pins s σ0 H _ _ v u Q I rx ry (inS_rd rh ra rb0 e2 q)
    · exact p.elim
  · have rb0 := rb
    cases rb with
    | tup sq r =>
      obtain ⟨k, e2, q⟩ := p.ofB rh
      rcases inA_of e2 with e2 | e2
      · obtain ⟨f1, f2, f3⟩ := inD_rd ra r e2
        exact op_in_seq pins s σ0 H _ _ v u Q I rx ry ⟨_, _, rfl, .inr sq, f1, f2, by rw [if_neg Bool.false_ne_true, f3]; exact q⟩
      · exact op_inS hu false pins s σ0 H _ _ v u Q I rx ry (inS_rd rh ra rb0 e2 q)
  · have rb0 := rb
    cases rb
    split at p
    · rename_i e
      obtain ⟨k, e2, q⟩ := p.ofB rh
      obtain ⟨_, vs, sq, r⟩ := rh.lst e
      rcases inA_of e2 with e2 | e2
      · obtain ⟨f1, f2, f3⟩ := inD_rd ra r e2
        exact op_notIn_seq pins s σ0 H _ _ v u Q I rx ry ⟨_, vs, rfl, .inl sq, f1, f2, by rw [if_pos rfl, f3]; exact q⟩
      · exact op_inS hu true pins s σ0 H _ _ v u Q I rx ry (inS_rd rh ra rb0 e2 q)
    · exact p.elim
  · have rb0 := rb
    cases rb with
    | tup sq r =>
      obtain ⟨k, e2, q⟩ := p.ofB rh
      rcases inA_of e2 with e2 | e2
      · obtain ⟨f1, f2, f3⟩ := inD_rd ra r e2
        exact op_notIn_seq pins s σ0 H _ _ v u Q I rx ry ⟨_, _, rfl, .inr sq, f1, f2, by rw [if_pos rfl, f3]; exact q⟩
      · exact op_inS hu true pins s σ0 H _ _ v u Q I rx ry (inS_rd rh ra rb0 e2 q)
  · cases ra; cases rb
    exact is_bl pins s σ0 H v u Q I rx ry false _ rfl (p.here rh (.bl _))
  · cases ra; cases rb
    exact is_bl pins s σ0 H v u Q I rx ry true _ rfl (p.here rh (.bl _))
  · cases ra; cases rb; exact op_le_str pins s σ0 H _ _ v u Q I rx ry ⟨_, _, rfl, rfl, p.here rh (.bl _)⟩
  · cases ra; cases rb; exact op_lt_str pins s σ0 H _ _ v u Q I rx ry ⟨_, _, rfl, rfl, p.here rh (.bl _)⟩
  · exact p.elim
theorem s_cmp {op : CmpOp} (hu : X.A.units + 65 < cLine) (ha : PE X a (PE_ (FX X cv fn xs) W fa)) (hb : PE X b (PE_ (FX X cv fn xs) W fb)) (hm : behindInMarks op b = false) : PE X (.Compare a [op] [b] pos) (PE_ (FX X cv fn xs) W (dCmp op fa fb)) :=
  peImp (pe_cmpR (o_cmp hu op) ha hb hm) fun _ _ _ q => bind2 q
theorem st_cmp {op : CmpOp} (hu : X.A.units + 65 < cLine) (ha : PE X a (PE_ (FX X cv fn xs) W fa)) (hb : PE X b (PE_ (FX X cv fn xs) W fb)) (hm : behindInMarks op b = false) : PT X (.Compare a [op] [b] pos) (PT_ (FX X cv fn xs) W (tB (dCmp op fa fb))) := by
  refine ptImp (pt_cmpR (o_cmp (cv := cv) (fn := fn) (xs := xs) hu op) ha hb hm) fun σ H Q q => ?_
  obtain ⟨m, e, h, rh, re, p⟩ := q
  refine bind2 (T := FX X cv fn xs) (W := W) ⟨m, e, h, rh, re, p.bind fun a h1 m1 H1 x g1 rh1 ra p1 => ?_⟩
  cases a with
  | bl k =>
    cases ra
    exact ⟨k, rfl, p1.here rh1 rfl⟩
  | _ => exact p1.elim
theorem blOf_bind {T : Fx} {W : WX} {α β : Type} {RA : (Nat → Addr) → Nat → Hp → α → β → Prop} {σ : L2.St} {m : Nat → Addr} {h : Hh} {H : Hp} {d : D} {v : V} {k : Bool → Hh → R α} {Q : β → Hp → Prop} (p : PO T W RA σ m h H (blOf d h k) Q) (r : RD T.K m h.length H d v) :
    ∃ b, d = .bl b ∧ v = .bl b ∧ PO T W RA σ m h H (k b h) Q := by
  cases d with
  | bl b => cases r; exact ⟨b, rfl, rfl, p⟩
  | _ => exact p.elim
theorem chain_rd {op op' : CmpOp} {σ : L2.St} {H : Hp} {Q : VK} (q : PE_ (FX X cv fn xs) W (dCh op op' fa fb fc) σ H Q) :
    tChain (r2 (FX X cv fn xs) (bcmp op)) (r2 (FX X cv fn xs) (bcmp op')) (PE_ (FX X cv fn xs) W fa) (PE_ (FX X cv fn xs) W fb) (PE_ (FX X cv fn xs) W fc) σ H Q := by
  obtain ⟨m, e, h, rh, re, p⟩ := q
  refine ⟨m, e, h, rh, re, p.bind fun x h1 m1 H1 xv g1 rh1 rx p1 => ⟨m1, e, h1, rh1, g1.re re, p1.bind fun y h2 m2 H2 yv g2 rh2 ry p2 => ?_⟩⟩
  refine ⟨W, σ, m2, h2, x, y, rh2, g2.rd rx, ry, p2.bind fun z h3 m3 H3 zv g3 rh3 rz p3 => ?_⟩
  obtain ⟨k, _, ez, p3⟩ := blOf_bind p3 rz
  refine ⟨k, ez, ?_⟩
  cases k with
  | true =>
    rw [if_pos rfl] at p3 ⊢
    exact ⟨m3, e, h3, rh3, g3.re (g2.re (g1.re re)), p3.bind fun w h4 m4 H4 wv g4 rh4 rw' p4 => ⟨W, σ, m4, h4, y, w, rh4, g4.rd (g3.rd ry), rw', p4⟩⟩
  | false =>
    rw [if_neg Bool.false_ne_true] at p3 ⊢
    exact p3.here rh3 (.bl _)
theorem s_chain {op op' : CmpOp} (hu : X.A.units + 65 < cLine) (ha : PE X a (PE_ (FX X cv fn xs) W fa)) (hb : PE X b (PE_ (FX X cv fn xs) W fb)) (hc : PE X c (PE_ (FX X cv fn xs) W fc))
    (hm : lastMarks [op, op'] [b, c] = false) : PE X (.Compare a [op, op'] [b, c] pos) (PE_ (FX X cv fn xs) W (dCh op op' fa fb fc)) :=
  peImp (pe_chain (o_cmp (cv := cv) (fn := fn) (xs := xs) hu op) (o_cmp (cv := cv) (fn := fn) (xs := xs) hu op') ha hb hc hm) fun σ H Q q => chain_rd q
theorem tB_rd {f : ED} {σ : L2.St} {H : Hp} {Q : Bool → Hp → Prop} (q : PT_ (FX X cv fn xs) W (tB f) σ H Q) : PE_ (FX X cv fn xs) W f σ H fun x H1 => ∃ k, x = .bl k ∧ Q k H1 := by
  obtain ⟨m, e, h, rh, re, p⟩ := q
  refine ⟨m, e, h, rh, re, p.bind fun a h1 m1 H1 x g1 rh1 ra p1 => ?_⟩
  cases a with
  | bl k =>
    cases ra
    exact ⟨k, rfl, PO.here p1 rh1 rfl⟩
  | _ => exact p1.elim
theorem st_chain {op op' : CmpOp} (hu : X.A.units + 65 < cLine) (ha : PE X a (PE_ (FX X cv fn xs) W fa)) (hb : PE X b (PE_ (FX X cv fn xs) W fb)) (hc : PE X c (PE_ (FX X cv fn xs) W fc))
    (hm : lastMarks [op, op'] [b, c] = false) : PT X (.Compare a [op, op'] [b, c] pos) (PT_ (FX X cv fn xs) W (tB (dCh op op' fa fb fc))) :=
  ptImp (pt_chain (o_cmp (cv := cv) (fn := fn) (xs := xs) hu op) (o_cmp (cv := cv) (fn := fn) (xs := xs) hu op') ha hb hc hm) fun σ H Q q => chain_rd (tB_rd q)
theorem s_if {t : TD} (hc : PT X c (PT_ (FX X cv fn xs) W t)) (ha : PE X a (PE_ (FX X cv fn xs) W fa)) (hb : PE X b (PE_ (FX X cv fn xs) W fb)) : PE X (.IfExp c a b pos) (PE_ (FX X cv fn xs) W (dIf t fa fb)) :=
  peImp (pe_ifExp hc ha hb) fun σ H Q q => by
    obtain ⟨m, e, h, rh, re, p⟩ := q
    refine ⟨m, e, h, rh, re, p.bind fun x h1 m1 H1 xv g1 rh1 rx p1 => ?_⟩
    subst rx
    cases x with
    | true => rw [if_pos rfl] at p1 ⊢; exact ⟨m1, e, h1, rh1, g1.re re, p1⟩
    | false => rw [if_neg Bool.false_ne_true] at p1 ⊢; exact ⟨m1, e, h1, rh1, g1.re re, p1⟩
theorem o_ix : IxR X (r2 (FX X cv fn xs) ixD) := by
  intro value slice pins s σ0 H x y v u Q I rx ry hh hs
  obtain ⟨W, σ, m, h, d1, d2, rh, ra, rb, p⟩ := hh
  unfold ixD at p
  split at p
  · cases ra with
    | tup sq r =>
      cases rb
      split at p
      · rename_i d e
        obtain ⟨w, e1, rw'⟩ := atI_rd r e
        exact ix_tup value slice pins s σ0 H _ _ v u Q I rx ry ⟨_, _, _, w, rfl, rfl, sq, e1, p.here rh rw'⟩ hs
      · exact p.elim
  · cases ra
    cases rb
    split at p
    · rename_i e0
      split at p
      · rename_i d e
        obtain ⟨_, vs, sq, r⟩ := rh.lst e0
        obtain ⟨w, e1, rw'⟩ := atI_rd r e
        exact ix_list value slice pins s σ0 H _ _ v u Q I rx ry ⟨_, _, _, w, rfl, rfl, sq, e1, p.here rh rw'⟩ hs
      · exact p.elim
    · exact p.elim
  · cases ra
    cases rb
    split at p
    · rename_i hz
      split at p
      · rename_i d e
        exact ix_str value slice pins s σ0 H _ _ v u Q I rx ry ⟨_, _, _, rfl, rfl, by rw [sizeLine_eq]; exact hz, e, p.here rh (.str _)⟩ hs
      · exact p.elim
    · exact p.elim
  · exact p.elim
theorem s_ix (ha : PE X a (PE_ (FX X cv fn xs) W fa)) (hb : PE X b (PE_ (FX X cv fn xs) W fb)) (hs : PlainIx b) : PE X (.Subscript a b pos) (PE_ (FX X cv fn xs) W (dIx fa fb)) :=
  peImp (pe_ix o_ix ha hb hs) fun _ _ _ q => bind2 q
theorem s_aN : PA X [] (PA_ (FX X cv fn xs) W aN) := paImp pa_nil fun σ H Q q => by
  obtain ⟨m, e, h, rh, re, p⟩ := q
  exact p.here rh .nil
theorem s_aC {es : List Expr} {r : AD} (ha : PE X a (PE_ (FX X cv fn xs) W fa)) (hr : PA X es (PA_ (FX X cv fn xs) W r)) (hs : starEach (a :: es) X.env = (false, eval a X.env) :: starEach es X.env) : PA X (a :: es) (PA_ (FX X cv fn xs) W (aC fa r)) :=
  paImp (pa_cons ha hr hs) fun σ H Q q => by
    obtain ⟨m, e, h, rh, re, p⟩ := q
    exact ⟨m, e, h, rh, re, p.bind fun x h1 m1 H1 xv g1 rh1 rx p1 => ⟨m1, e, h1, rh1, g1.re re, p1.bind fun xs h2 m2 H2 xsv g2 rh2 rxs p2 => p2.here rh2 (.cons (g2.rd rx) rxs)⟩⟩
theorem s_tup {es : List Expr} {r : AD} {k : Nat} (hr : PA X es (PA_ (FX X cv fn xs) W r)) : PE X (.Tuple es k pos) (PE_ (FX X cv fn xs) W (dTup r)) :=
  peImp (pe_tup hr) fun σ H Q q => by
    obtain ⟨m, e, h, rh, re, p⟩ := q
    refine ⟨m, e, h, rh, re, p.bind fun xs h1 m1 H1 vs g1 rh1 rx p1 => ?_⟩
    split at p1
    · rename_i hz
      exact ⟨by rw [sizeLine_eq, ← rx.length]; exact hz, p1.newT rh1 rx⟩
    · exact p1.elim
theorem s_lst {es : List Expr} {r : AD} (hr : PA X es (PA_ (FX X cv fn xs) W r)) : PE X (.List es pos) (PE_ (FX X cv fn xs) W (dLst r)) :=
  peImp (pe_lst hr) fun σ H Q q => by
    obtain ⟨m, e, h, rh, re, p⟩ := q
    refine ⟨m, e, h, rh, re, p.bind fun xs h1 m1 H1 vs g1 rh1 rx p1 => ?_⟩
    split at p1
    · rename_i hz
      exact ⟨by rw [sizeLine_eq, ← rx.length]; exact hz, p1.new rh1 rx⟩
    · exact p1.elim
theorem bindN {T : Fx} {fs : AD} {g : FD} {σ : L2.St} {H : Hp} {Q : VK} (q : PE_ T W (dCall g fs []) σ H Q) : PA_ T W fs σ H fun xs H1 => rN T g xs H1 Q := by
  obtain ⟨m, e, h, rh, re, p⟩ := q
  exact ⟨m, e, h, rh, re, p.bind fun ds h1 m1 H1 vs g1 rh1 rx p1 => ⟨W, σ, m1, h1, ds, rh1, rx, by rw [List.append_nil] at p1; exact p1⟩⟩
theorem rds1 {K : PySem.W.Frag} {m : Nat → Addr} {N : Nat} {H : Hp} {d : D} {vs : List V} (r : RDs K m N H [d] vs) : ∃ v, vs = [v] ∧ RD K m N H d v := by
  cases r with
  | cons a b => cases b; exact ⟨_, rfl, a⟩
theorem rds2 {K : PySem.W.Frag} {m : Nat → Addr} {N : Nat} {H : Hp} {d d' : D} {vs : List V} (r : RDs K m N H [d, d'] vs) : ∃ v v', vs = [v, v'] ∧ RD K m N H d v ∧ RD K m N H d' v' := by
  cases r with
  | cons a b => cases b with
    | cons a' b' => cases b'; exact ⟨_, _, rfl, a, a'⟩
theorem c_len : CallR X (.builtin "len") (rN (FX X cv fn xs) fLen) := by
  intro pins s σ0 H xs us Q I r hh
  obtain ⟨W, σ, m, h, ds, rh, rx, p⟩ := hh
  unfold fLen at p
  split at p
  · obtain ⟨v, rfl, a⟩ := rds1 rx
    cases a with
    | tup sq q =>
      refine call_len pins s σ0 H _ us Q I r ⟨_, _, rfl, .inr ⟨_, sq, rfl⟩, ?_⟩
      rw [← q.length]
      exact p.here rh (.int _)
  · obtain ⟨v, rfl, a⟩ := rds1 rx
    cases a
    split at p
    · rename_i e
      obtain ⟨_, vs, sq, q⟩ := rh.lst e
      refine call_len pins s σ0 H _ us Q I r ⟨_, _, rfl, .inl ⟨_, sq, rfl⟩, ?_⟩
      rw [← q.length]
      exact p.here rh (.int _)
    · exact p.elim
  · obtain ⟨v, rfl, a⟩ := rds1 rx
    cases a
    split at p
    · rename_i hz
      exact call_len pins s σ0 H _ us Q I r ⟨_, _, rfl, ⟨by rw [sizeLine_eq]; exact hz, rfl⟩, p.here rh (.int _)⟩
    · exact p.elim
  · exact p.elim
theorem c_abs : CallR X (.builtin "abs") (rN (FX X cv fn xs) fAbs) := by
  intro pins s σ0 H xs us Q I r hh
  obtain ⟨W, σ, m, h, ds, rh, rx, p⟩ := hh
  unfold fAbs at p
  split at p
  · obtain ⟨v, rfl, a⟩ := rds1 rx
    cases a
    exact call_abs pins s σ0 H _ us Q I r ⟨_, rfl, p.here rh (.int _)⟩
  · exact p.elim
theorem c_int : CallR X (.type "int") (rN (FX X cv fn xs) fInt) := by
  intro pins s σ0 H xs us Q I r hh
  obtain ⟨W, σ, m, h, ds, rh, rx, p⟩ := hh
  unfold fInt at p
  split at p
  · obtain ⟨v, rfl, a⟩ := rds1 rx
    cases a
    split at p
    · rename_i n e
      split at p
      · rename_i hz
        exact call_int_str pins s σ0 H _ us Q I r ⟨_, n, rfl, e, hz, p.here rh (.int _)⟩
      · exact p.elim
    · exact p.elim
  · obtain ⟨v, rfl, a⟩ := rds1 rx
    cases a
    exact call_int1 pins s σ0 H _ us Q I r (.inl ⟨_, rfl, p.here rh (.int _)⟩)
  · obtain ⟨v, rfl, a⟩ := rds1 rx
    cases a
    exact call_int1 pins s σ0 H _ us Q I r (.inr ⟨_, rfl, p.here rh (.int _)⟩)
  · exact p.elim
theorem c_str : CallR X (.type "str") (rN (FX X cv fn xs) fStr) := by
  intro pins s σ0 H xs us Q I r hh
  obtain ⟨W, σ, m, h, ds, rh, rx, p⟩ := hh
  unfold fStr at p
  split at p
  · obtain ⟨v, rfl, a⟩ := rds1 rx
    cases a
    split at p
    · rename_i hz
      exact call_str_int pins s σ0 H _ us Q I r ⟨_, rfl, hz, p.here rh (.str _)⟩
    · exact p.elim
  · exact p.elim
theorem c_strL (hc : X.calm = true) (hdg : X.base.NoDigits) : CallR X (.type "str") (rN (FX X cv fn xs) fStrL) := by
  intro pins s σ0 H ys us Q I r hh
  obtain ⟨W, σ, m, h, ds, rh, rx, p⟩ := hh
  unfold fStrL at p
  split at p
  · obtain ⟨v, rfl, a⟩ := rds1 rx
    cases a
    split at p
    · rename_i hz
      obtain ⟨u, rfl, t, rfl⟩ := vals1 r
      exact PyProof.Rows.str_of_int_or (I.ok.hd hc) (hdg.keeps I.bk) (fun _ => ⟨.str _, H, I.tok _, ⟨_, rfl⟩, p.here rh (.str _)⟩) fun z => absurd hz (Nat.not_lt.mpr z)
    · exact p.elim
  · exact p.elim
theorem c_gcd : CallR X (.builtin "math.gcd") (rN (FX X cv fn xs) fGcd) := by
  intro pins s σ0 H xs us Q I r hh
  obtain ⟨W, σ, m, h, ds, rh, rx, p⟩ := hh
  unfold fGcd at p
  split at p
  · obtain ⟨v, v', rfl, a, a'⟩ := rds2 rx
    cases a
    cases a'
    exact cr_gcd pins s σ0 H _ us Q I r ⟨_, _, rfl, p.here rh (.int _)⟩
  · exact p.elim
theorem cr_range1 : CallR X (.type "range") (fun vs H Q => ∃ j, vs = [V.int j] ∧ ∀ p, H p = none → Q (.ref p) (upd H p (.rng 0 j))) := by
  intro pins s σ H vs us Q I r h
  obtain ⟨j, rfl, q⟩ := h
  obtain ⟨u1, rfl, rj⟩ := vals1 r
  obtain ⟨t, rfl⟩ := rj
  refine call_range_1 ⟨.ref s.heap.objs.size, upd H s.heap.objs.size (.rng 0 j), I.laid (t' := s.toks + 1 + 1) (fun b o e => Heap.get?_push_of_some _ e) (Nat.le_refl _) ?_, rfl, q _ (I.hok.fresh (Nat.le_refl _))⟩
  exact ⟨_, _, _, Heap.get?_push_size _ rfl⟩
theorem PO.newR {T : Fx} {W : WX} {σ : L2.St} {m : Nat → Addr} {h : Hh} {H : Hp} {lo hi : Int} {Q : VK} (p : PO T W (rdR T) σ m h H (.ok (.rg lo hi) h) Q) (rh : RH T m h H) :
    ∀ q, H q = none → Q (.ref q) (upd H q (.rng lo hi)) := fun q hq => by
  obtain ⟨g, rh'⟩ := rh.lay (u := .rng lo hi) hq
  exact p m _ _ g rh' (.rg upd_same)
theorem c_rng1 : CallR X (.type "range") (rN (FX X cv fn xs) fRng1) := by
  intro pins s σ0 H xs us Q I r hh
  obtain ⟨W, σ, m, h, ds, rh, rx, p⟩ := hh
  unfold fRng1 at p
  split at p
  · obtain ⟨v, rfl, a⟩ := rds1 rx
    cases a
    exact cr_range1 pins s σ0 H _ us Q I r ⟨_, rfl, p.newR rh⟩
  · exact p.elim
theorem c_list : CallR X (.type "list") (rN (FX X cv fn xs) fList) := by
  intro pins s σ0 H xs us Q I r hh
  obtain ⟨W, σ, m, h, ds, rh, rx, p⟩ := hh
  unfold fList at p
  split at p
  · obtain ⟨v, rfl, a⟩ := rds1 rx
    cases a
    split at p
    · rename_i e
      obtain ⟨_, vs, sq, q⟩ := rh.lst e
      exact call_list_of pins s σ0 H _ us Q I r ⟨_, _, rfl, .inl sq, p.new rh q⟩
    · exact p.elim
  · obtain ⟨v, rfl, a⟩ := rds1 rx
    cases a with
    | tup sq q => exact call_list_of pins s σ0 H _ us Q I r ⟨_, _, rfl, .inr sq, p.new rh q⟩
  · exact p.elim
theorem c_tuple : CallR X (.type "tuple") (rN (FX X cv fn xs) fTuple) := by
  intro pins s σ0 H xs us Q I r hh
  obtain ⟨W, σ, m, h, ds, rh, rx, p⟩ := hh
  unfold fTuple at p
  split at p
  · obtain ⟨v, rfl, a⟩ := rds1 rx
    cases a
    split at p
    · rename_i e
      obtain ⟨_, vs, sq, q⟩ := rh.lst e
      exact call_tuple_of pins s σ0 H _ us Q I r ⟨_, _, rfl, .inl ⟨sq, p.newT rh q⟩⟩
    · exact p.elim
  · obtain ⟨v, rfl, a⟩ := rds1 rx
    cases a with
    | tup sq q => exact call_tuple_of pins s σ0 H _ us Q I r ⟨_, _, rfl, .inr ⟨sq, p.here rh (.tup sq q)⟩⟩
  · exact p.elim
theorem intsOf_rd {T : Fx} {m : Nat → Addr} {h : Hh} {H : Hp} : ∀ {ds : List D} {vs : List V} {ns : List Int}, RDs T.K m h.length H ds vs → intsOf ds = some ns → vs = ns.map V.int
  | _, _, _, .nil, e => by cases e; rfl
  | d :: ds, _, ns, .cons a b, e => by
    cases d with
    | int i =>
      obtain ⟨ms, e1, rfl⟩ := Option.map_eq_some_iff.mp (show (intsOf ds).map (i :: ·) = some ns from e)
      cases a
      rw [intsOf_rd b e1]
      rfl
    | _ => cases e
theorem blsOf_rd {T : Fx} {m : Nat → Addr} {h : Hh} {H : Hp} : ∀ {ds : List D} {vs : List V} {ns : List Bool}, RDs T.K m h.length H ds vs → blsOf ds = some ns → vs = ns.map V.bl
  | _, _, _, .nil, e => by cases e; rfl
  | d :: ds, _, ns, .cons a b, e => by
    cases d with
    | bl i =>
      obtain ⟨ms, e1, rfl⟩ := Option.map_eq_some_iff.mp (show (blsOf ds).map (i :: ·) = some ns from e)
      cases a
      rw [blsOf_rd b e1]
      rfl
    | _ => cases e
theorem c_sum (hc : X.calm = true) : CallR X (.builtin "sum") (rN (FX X cv fn xs) fSum) := by
  intro pins s σ0 H xs us Q I r hh
  obtain ⟨W, σ, m, h, ds, rh, rx, p⟩ := hh
  unfold fSum at p
  split at p
  · obtain ⟨v, rfl, a⟩ := rds1 rx
    cases a
    split at p
    · rename_i ns e
      obtain ⟨es, e1, e2⟩ := Option.bind_eq_some_iff.mp e
      obtain ⟨_, vs, sq, q⟩ := rh.lst e1
      have z := intsOf_rd q e2
      subst z
      exact cr_sum hc pins s σ0 H _ us Q I r ⟨_, _, rfl, sq, p.here rh (.int _)⟩
    · exact p.elim
  · exact p.elim
theorem c_all (hc : X.calm = true) : CallR X (.builtin "all") (rN (FX X cv fn xs) fAll) := by
  intro pins s σ0 H xs us Q I r hh
  obtain ⟨W, σ, m, h, ds, rh, rx, p⟩ := hh
  unfold fAll at p
  split at p
  · obtain ⟨v, rfl, a⟩ := rds1 rx
    cases a
    split at p
    · rename_i ns e
      obtain ⟨es, e1, e2⟩ := Option.bind_eq_some_iff.mp e
      obtain ⟨_, vs, sq, q⟩ := rh.lst e1
      have z := blsOf_rd q e2
      subst z
      exact cr_all hc pins s σ0 H _ us Q I r ⟨_, _, rfl, sq, p.here rh (.bl _)⟩
    · exact p.elim
  · exact p.elim
theorem c_any (hc : X.calm = true) : CallR X (.builtin "any") (rN (FX X cv fn xs) fAny) := by
  intro pins s σ0 H xs us Q I r hh
  obtain ⟨W, σ, m, h, ds, rh, rx, p⟩ := hh
  unfold fAny at p
  split at p
  · obtain ⟨v, rfl, a⟩ := rds1 rx
    cases a
    split at p
    · rename_i ns e
      obtain ⟨es, e1, e2⟩ := Option.bind_eq_some_iff.mp e
      obtain ⟨_, vs, sq, q⟩ := rh.lst e1
      have z := blsOf_rd q e2
      subst z
      exact cr_any hc pins s σ0 H _ us Q I r ⟨_, _, rfl, sq, p.here rh (.bl _)⟩
    · exact p.elim
  · exact p.elim
theorem c_max (hc : X.calm = true) : CallR X (.builtin "max") (rN (FX X cv fn xs) fMax) := by
  intro pins s σ0 H xs us Q I r hh
  obtain ⟨W, σ, m, h, ds, rh, rx, p⟩ := hh
  unfold fMax at p
  split at p
  · obtain ⟨v, v', rfl, a, a'⟩ := rds2 rx
    cases a
    cases a'
    exact call_max2 hc pins s σ0 H _ us Q I r ⟨_, _, rfl, p.here rh (.int _)⟩
  · exact p.elim
theorem c_min (hc : X.calm = true) : CallR X (.builtin "min") (rN (FX X cv fn xs) fMin) := by
  intro pins s σ0 H xs us Q I r hh
  obtain ⟨W, σ, m, h, ds, rh, rx, p⟩ := hh
  unfold fMin at p
  split at p
  · obtain ⟨v, v', rfl, a, a'⟩ := rds2 rx
    cases a
    cases a'
    exact call_min2 hc pins s σ0 H _ us Q I r ⟨_, _, rfl, p.here rh (.int _)⟩
  · exact p.elim
theorem m_append : MtR X "list.append" (rM (FX X cv fn xs) mAppend) := by
  intro pins s σ0 H x xs v us Q I rx rs hh
  obtain ⟨W, σ, m, h, d, ds, rh, rd, rds, p⟩ := hh
  unfold mAppend at p
  split at p
  · cases rd
    obtain ⟨y, rfl, ry⟩ := rds1 rds
    split at p
    · rename_i e
      split at p
      · rename_i hz
        obtain ⟨hl, vs, q1, q2⟩ := rh.mut e
        obtain ⟨g, rh'⟩ := rh.putL e q1 (q2.snoc ry)
        exact mt_append pins s σ0 H _ _ v us Q I rx rs ⟨_, _, _, rfl, rfl, q1, by rw [sizeLine_eq, ← q2.length]; exact hz, p m _ _ g rh' .non⟩
      · exact p.elim
    · exact p.elim
  · exact p.elim
theorem m_pop : MtR X "list.pop" (rM (FX X cv fn xs) mPop) := by
  intro pins s σ0 H x xs v us Q I rx rs hh
  obtain ⟨W, σ, m, h, d, ds, rh, rd, rds, p⟩ := hh
  unfold mPop at p
  split at p
  · cases rd
    cases rds
    split at p
    · rename_i e
      split at p
      · rename_i y ey
        obtain ⟨hl, vs, q1, q2⟩ := rh.mut e
        obtain ⟨w, ew, rw'⟩ := q2.get ey
        rw [q2.length] at ew
        obtain ⟨g, rh'⟩ := rh.putL e q1 q2.dropLast
        exact mt_pop pins s σ0 H _ _ v us Q I rx rs ⟨_, _, _, rfl, rfl, q1, ew, p m _ _ g rh' (g.rd rw')⟩
      · exact p.elim
    · exact p.elim
  · exact p.elim
end
end Mn
namespace Mn
open PySem L2
section
variable {X : Cx} {cv : Nat → Value} {fn : Nat → Str} {xs : Xs} {W : WX} {pos : Pos} {a b c : Expr} {fa fb fc : ED} {t u : TD}
theorem truth_rd {T : Fx} {m : Nat → Addr} {h : Hh} {H : Hp} {d : D} {v : V} {k : Bool} (rh : RH T m h H) (r : RD T.K m h.length H d v) (e : truth d h = some k) : TruV T.K v H k := by
  cases d with
  | non => cases r; cases e; rfl
  | bl b => cases r; cases e; rfl
  | int i => cases r; cases e; rfl
  | rg lo hi => cases e
  | ref n =>
    cases r
    obtain ⟨ds, e1, rfl⟩ := Option.map_eq_some_iff.mp (show (lstAt h n).map _ = _ from e)
    obtain ⟨_, vs, sq, q⟩ := rh.lst e1
    refine .inl ⟨vs, sq, ?_⟩
    cases q <;> rfl
  | str s => cases e
  | tup ds => cases e
theorem st_true (ha : PE X a (PE_ (FX X cv fn xs) W fa)) (he : ∀ whole, isTrue a X.env whole = (do let v ← whole; standAt a.pos; holding [v] (truthy v))) : PT X a (PT_ (FX X cv fn xs) W (tE fa)) :=
  ptImp (pt_truth ha he) fun σ H Q q => by
    obtain ⟨m, e, h, rh, re, p⟩ := q
    refine ⟨m, e, h, rh, re, p.bind fun x h1 m1 H1 xv g1 rh1 rx p1 => ?_⟩
    split at p1
    · rename_i k e
      exact ⟨k, truth_rd rh1 rx e, p1.here rh1 rfl⟩
    · exact p1.elim
theorem st_not (ha : PT X a (PT_ (FX X cv fn xs) W t)) : PT X (.UnaryOp .Not a pos) (PT_ (FX X cv fn xs) W (tNot t)) :=
  ptImp (pt_not ha) fun σ H Q q => by
    obtain ⟨m, e, h, rh, re, p⟩ := q
    refine ⟨m, e, h, rh, re, p.bind fun x h1 m1 H1 xv g1 rh1 rx p1 => ?_⟩
    subst rx
    exact p1.here rh1 rfl
theorem pwImp {X : Cx} {e : Expr} {t t' : TT} (h : PW X e t) (w : ∀ σ H Q, t' σ H Q → t σ H Q) : PW X e t' := ⟨fun wh pins s σ H Q I q => h.run wh pins s σ H Q I (w σ H Q q)⟩
theorem sw_and {rest : List Expr} (ha : PT X a (PT_ (FX X cv fn xs) W t)) (hb : PW X (.BoolOp .And (b :: rest) pos) (PT_ (FX X cv fn xs) W u)) : PW X (.BoolOp .And (a :: b :: rest) pos) (PT_ (FX X cv fn xs) W (tAnd t u)) :=
  pwImp (pw_and ha hb) fun σ H Q q => by
    obtain ⟨m, e, h, rh, re, p⟩ := q
    refine ⟨m, e, h, rh, re, p.bind fun x h1 m1 H1 xv g1 rh1 rx p1 => ?_⟩
    subst rx
    cases x with
    | true => rw [if_pos rfl] at p1 ⊢; exact ⟨m1, e, h1, rh1, g1.re re, p1⟩
    | false => rw [if_neg Bool.false_ne_true] at p1 ⊢; exact p1.here rh1 rfl
theorem sw_or {rest : List Expr} (ha : PT X a (PT_ (FX X cv fn xs) W t)) (hb : PW X (.BoolOp .Or (b :: rest) pos) (PT_ (FX X cv fn xs) W u)) : PW X (.BoolOp .Or (a :: b :: rest) pos) (PT_ (FX X cv fn xs) W (tOr t u)) :=
  pwImp (pw_or ha hb) fun σ H Q q => by
    obtain ⟨m, e, h, rh, re, p⟩ := q
    refine ⟨m, e, h, rh, re, p.bind fun x h1 m1 H1 xv g1 rh1 rx p1 => ?_⟩
    subst rx
    cases x with
    | true => rw [if_pos rfl] at p1 ⊢; exact p1.here rh1 rfl
    | false => rw [if_neg Bool.false_ne_true] at p1 ⊢; exact ⟨m1, e, h1, rh1, g1.re re, p1⟩
def Ty.nm : Ty → String
  | .int => "int" | .bool => "bool" | .str => "str" | .tuple => "tuple" | .list => "list"
theorem ty_rd {T : Fx} {m : Nat → Addr} {h : Hh} {H : Hp} {d : D} {v : V} {t : Ty} {k : Bool} (rh : RH T m h H) (r : RD T.K m h.length H d v) (e : isTy t d h = some k) :
    ∃ ty, TyX T.K H v ty ∧ PySem.W.kitOne T.K ty (.type t.nm) = some k := by
  cases d with
  | non => cases r; cases e; exact ⟨_, .base .non, kit_ty (by cases t <;> decide +kernel)⟩
  | bl b => cases r; cases e; exact ⟨_, .base (.bl _), kit_ty (by cases t <;> decide +kernel)⟩
  | int b => cases r; cases e; exact ⟨_, .base (.int _), kit_ty (by cases t <;> decide +kernel)⟩
  | str b => cases r; cases e; exact ⟨_, .base (.str _), kit_ty (by cases t <;> decide +kernel)⟩
  | tup ds =>
    cases e
    refine ⟨.type "tuple", ?_, kit_ty (by cases t <;> decide +kernel)⟩
    cases r with
    | tup sq q =>
      rcases sq with (sq | ⟨o, sq⟩) | ⟨o, its, n, h1, h2, _⟩
      · exact .base (.tup sq)
      · exact .fTuple sq
      · exact .kTuple h1 h2
  | rg lo hi => cases e
  | ref n =>
    cases r
    obtain ⟨ds, e1, rfl⟩ := Option.map_eq_some_iff.mp (show (lstAt h n).map _ = _ from e)
    refine ⟨.type "list", ?_, kit_ty (by cases t <;> decide +kernel)⟩
    unfold lstAt at e1
    cases q : h[n]? with
    | none => rw [q] at e1; cases e1
    | some o =>
      rw [q] at e1
      have ro := rh.obj n o q
      cases o with
      | lst xs =>
        obtain ⟨vs, q1, _⟩ := ro
        exact .base (.lst q1)
      | frz xs =>
        obtain ⟨vs, q1, _⟩ := ro
        rcases q1 with ⟨ob, q1⟩ | ⟨ob, its, k, q1, q2, _⟩
        · exact .base (.frz q1)
        · exact .kList q1 q2
      | ins c fs => cases e1
theorem s_is {tn : String} {ty : Ty} {p : Pos} (ht : ty.nm = tn) (hg : Gl X "isinstance") (hm : X.mg "isinstance" = none) (hb : PE X b (tC (.ty tn))) (ha : PE X a (PE_ (FX X cv fn xs) W fa))
    (hs1 : starEach [a, b] X.env = [(false, eval a X.env), (false, eval b X.env)]) (hs2 : starEach [b] X.env = [(false, eval b X.env)]) (hpl : (backTo pos (starEach [b] X.env)).any (·.1) = false) :
    PE X (.Call (.Name "isinstance" p) [a, b] [] pos) (PE_ (FX X cv fn xs) W (dIs ty fa)) := by
  subst ht
  have hA : PA X [a, b] _ := pa_cons ha (pa_cons hb pa_nil (by rw [hs2]; rfl)) (by rw [hs1, hs2])
  refine peImp (pe_callB call_isi hg hm (by rfl) hA (by decide) (by decide) (by rw [hs1, hs2]) hpl) fun σ H Q q => ?_
  obtain ⟨m, e, h, rh, re, p⟩ := q
  refine ⟨m, e, h, rh, re, p.bind fun x h1 m1 H1 xv g1 rh1 rx p1 => ?_⟩
  obtain ⟨k, e1, q1⟩ := p1.ofB rh1
  obtain ⟨tv, h2, h3⟩ := ty_rd rh1 rx e1
  exact ⟨xv, _, tv, _, k, rfl, .ty _, h2, h3, q1⟩
def spT (T : Fx) (n : Nat) (g : FD) : Sp := fun vs H Q E => vs.length = n ∧ ∃ (m : Nat → Addr) (h : Hh) (ds : List D), RH T m h H ∧ RDs T.K m h.length H ds vs ∧ PO T (fun c d _ H => E c d H) (rdR T) [] m h H (g ds h) Q
theorem run_own {k : Nat} {f : Addr} {fd : FuncData} {ps : List Str} {sp : Sp} {ws : List Value} {dvs : List V} {E : XK} {pins : List (Addr × Obj)} {σ : L2.St} {H : Hp} {s : Shared} {Q : VK} {us : List Value} {vs : List V}
    (F : FnOk X.prog X.w X.K X.mg X.base (L2N.CX X.prog X.w) k f fd ps sp) (hr : Room k X.A) (hb : Binds X.K fd ps ws) (hd : Vals dvs ws) (hx : PassesAt (L2N.CX X.prog X.w) X σ E)
    (I : Inv X pins σ H s) (r : Vals vs us) (h : sp (vs ++ dvs) H Q E) : wpAny (model X.prog X.w) X.A (call (.ref f) us) (EP X pins σ Q) X.xe s := by
  have rr := Vals.append r hd
  have hl : (us ++ ws).length = ps.length := (rr.length.symm).trans (F.len _ _ _ _ h)
  have run := F.run X.A X.stack s H ⟨us, []⟩ (us ++ ws) (vs ++ dvs) Q E hr I.env0 (hb s us I.kIn hl) rr h
  refine wpAny_call (codeAny_mono run fun res s2 q => ?_)
  match res, q with
  | .error x, q => exact hx pins H s x s2 I q
  | .ok (.ret w), q => exact I.after q
  | .ok .next, q => exact q.elim
  | .ok .brk, q => exact q.elim
  | .ok .cont, q => exact q.elim
section
variable {k : Nat} {f : Addr} {fd : FuncData} {ps : List Str} {ws : List Value} {dvs : List V} {dds : List D} {g : FD} {x : Str} {p : Pos} {es : List Expr} {fs : AD}
theorem call_rd {σ : L2.St} {m : Nat → Addr} {h : Hh} {H : Hp} {ds : List D} {vs : List V} {Q : VK} (n : Nat) (hdd : ∀ m N H, RDs X.K m N H dds dvs) (hn : vs.length + dvs.length = n) (rh : RH (FX X cv fn xs) m h H) (r : RDs X.K m h.length H ds vs)
    (p : PO (FX X cv fn xs) W (rdR (FX X cv fn xs)) σ m h H (g (ds ++ dds) h) Q) : spT (FX X cv fn xs) n g (vs ++ dvs) H Q (WE W σ) := by
  refine ⟨by rw [List.length_append]; exact hn, m, h, ds ++ dds, rh, r.append (hdd _ _ _), ?_⟩
  cases q : g (ds ++ dds) h with
  | ok a h' => rw [q] at p; exact p
  | exc x h' => rw [q] at p; exact p
  | stuck => rw [q] at p; exact p
theorem s_call (F : FnOk X.prog X.w X.K X.mg X.base (L2N.CX X.prog X.w) k f fd ps (spT (FX X cv fn xs) ps.length g)) (hr : Room k X.A) (hg : Gl X x) (hm : X.mg x = some (.ref f)) (hk : PySem.W.keepIn X.K (.ref f) = true) (hb : Binds X.K fd ps ws) (hd : Vals dvs ws)
    (hdd : ∀ m N H, RDs X.K m N H dds dvs) (hn : (a :: es).length + dvs.length = ps.length) (hlen : ∀ e h ds h', fs e h = .ok ds h' → ds.length = (a :: es).length) (tk : L2N.Takes X W) (ha : PA X (a :: es) (PA_ (FX X cv fn xs) W fs)) (hdb : (x == ("__debug__" : Str)) = false)
    (he : starEach (a :: es) X.env = (false, eval a X.env) :: starEach es X.env) (hpl : (backTo pos (starEach es X.env)).any (·.1) = false) :
    PE X (.Call (.Name x p) (a :: es) [] pos) (PE_ (FX X cv fn xs) W (dCall g fs dds)) := by
  refine ⟨fun pins s σ H Q I hq => ?_⟩
  obtain ⟨m, e, h, rh, re, p⟩ := hq
  refine wpAny_Call_Name_kw (ld_glob I hg hm ?_ hdb)
  refine PySem.W.callWith_K (h₀ := X.base) I.ok.mod.kin hk ?_ he hpl
  have p' : PA_ (FX X cv fn xs) W fs σ H fun vs H1 => spT (FX X cv fn xs) ps.length g (vs ++ dvs) H1 Q (WE W σ) := by
    cases q : fs e h with
    | ok ds h' =>
      refine ⟨m, e, h, rh, re, ?_⟩
      rw [q]
      have p2 : PO (FX X cv fn xs) W (rdR (FX X cv fn xs)) σ m h H (g (ds ++ dds) h') Q := by
        have p3 := p
        unfold dCall at p3
        rw [q] at p3
        exact p3
      intro m1 H1 vs g1 rh1 r1
      exact call_rd ps.length hdd (by rw [← r1.length, hlen _ _ _ _ q]; exact hn) rh1 r1 (p2.base g1)
    | exc x h' =>
      refine ⟨m, e, h, rh, re, ?_⟩
      rw [q]
      have p3 := p
      unfold dCall at p3
      rw [q] at p3
      exact p3
    | stuck =>
      have p3 := p
      unfold dCall at p3
      rw [q] at p3
      exact p3.elim
  refine thn (ha.run pos pins s σ H _ I p') fun us s1 ⟨vs, H1, I1, r, q⟩ => ⟨I1.kIn, ?_⟩
  exact run_own F hr hb hd (L2N.passAt tk σ) I1 r q
theorem s_call0 (F : FnOk X.prog X.w X.K X.mg X.base (L2N.CX X.prog X.w) k f fd ps (spT (FX X cv fn xs) ps.length g)) (hr : Room k X.A) (hg : Gl X x) (hm : X.mg x = some (.ref f)) (hk : PySem.W.keepIn X.K (.ref f) = true) (hb : Binds X.K fd ps ws) (hd : Vals dvs ws)
    (hdd : ∀ m N H, RDs X.K m N H dds dvs) (hn : dvs.length = ps.length) (tk : L2N.Takes X W) (hdb : (x == ("__debug__" : Str)) = false) :
    PE X (.Call (.Name x p) [] [] pos) (PE_ (FX X cv fn xs) W (dCall g aN dds)) := by
  refine ⟨fun pins s σ H Q I hq => ?_⟩
  obtain ⟨m, e, h, rh, re, p⟩ := hq
  refine wpAny_Call_Name_kw (ld_glob I hg hm ?_ hdb)
  refine PySem.W.callWith_K0 I.kIn hk ?_
  refine run_own (us := []) (vs := []) F hr hb hd (L2N.passAt tk σ) I .nil ?_
  exact call_rd (ds := []) ps.length hdd (by rw [List.length_nil, Nat.zero_add]; exact hn) rh .nil p
end
def WalkD (T : Fx) (m0 : Nat → Addr) (N0 : Nat) (H0 : Hp) (sq : Sq) (J : It) : Prop := ∀ (m : Nat → Addr) (h : Hh) (H : Hp), RH T m h H → (∀ n, n < N0 → m n = m0 n) → N0 ≤ h.length → TK H0 H → srcOk sq.src h →
  (∀ i, i < sq.items.length → J.go i H) ∧ J.stop sq.items.length H ∧ ∀ i x H', i < sq.items.length → J.yld i H x H' → ∃ d, sq.items[i]? = some d ∧ Ge m h H m h H' ∧ RH T m h H' ∧ RD T.K m h.length H' d x
def PI_ (T : Fx) (W : WX) (f : ID) : TI := fun σ H R => ∃ m e h, RH T m h H ∧ RE T m h.length H e σ ∧ PO T W (WalkD T) σ m h H (f e h) R
theorem piImp {tg it : Expr} {t t' : TI} (h : PI X tg it t) (w : ∀ σ H Q, t' σ H Q → t σ H Q) : PI X tg it t' := ⟨fun pins s σ H Q I q => h.run pins s σ H Q I (w σ H Q q)⟩
theorem walk_l {T : Fx} {m : Nat → Addr} {h : Hh} {H : Hp} {n : Nat} {ds : List D} (rh : RH T m h H) (e : lstAt h n = some ds) : WalkD T m h.length H ⟨ds, [(n, ds)]⟩ (Itl T.K (m n)) := by
  intro m1 h1 H1 rh1 em hN tk ok
  have e1 : lstAt h1 n = some ds := ok (n, ds) (by simp)
  obtain ⟨hn, _⟩ := rh.lst e
  obtain ⟨_, vs, sq, q⟩ := rh1.lst e1
  rw [em n hn] at sq
  have w := walk_list (K := T.K) (a := m n) (xs := vs)
  have hl := q.length
  refine ⟨fun i hi => w.goes i H1 (by rw [← hl]; exact hi) sq, by rw [hl]; exact w.stops H1 sq, fun i x H' hi y => ?_⟩
  obtain ⟨rfl, hx⟩ := w.yields i H1 x H' (by rw [← hl]; exact hi) sq y
  obtain ⟨d, e2, r⟩ := q.getV hx
  exact ⟨d, e2, Ge.refl, rh1, r⟩
theorem walk_t {T : Fx} {m : Nat → Addr} {h : Hh} {H : Hp} {a : Addr} {ds : List D} {vs : List V} (sq : SqT T.K H a vs) (q : RDs T.K m h.length H ds vs) : WalkD T m h.length H ⟨ds, []⟩ (Itt T.K a) := by
  intro m1 h1 H1 rh1 em hN tk ok
  have sq1 := tk.seq sq
  have q1 := q.mono tk em hN
  have w := walk_tup (K := T.K) (a := a) (xs := vs)
  have hl := q.length
  refine ⟨fun i hi => w.goes i H1 (by rw [← hl]; exact hi) sq1, by rw [hl]; exact w.stops H1 sq1, fun i x H' hi y => ?_⟩
  obtain ⟨rfl, hx⟩ := w.yields i H1 x H' (by rw [← hl]; exact hi) sq1 y
  obtain ⟨d, e2, r⟩ := q1.getV hx
  exact ⟨d, e2, Ge.refl, rh1, r⟩
theorem walk_s {T : Fx} {m : Nat → Addr} {N : Nat} {H : Hp} {z : Str} : WalkD T m N H ⟨z.cps.toList.map fun c => D.str ⟨#[c]⟩, []⟩ (Its z) := by
  intro m1 h1 H1 rh1 em hN tk ok
  have hl : (z.cps.toList.map fun c => D.str ⟨#[c]⟩).length = z.cps.size := by rw [List.length_map, Array.length_toList]
  refine ⟨fun i hi => by rw [hl] at hi; exact hi, by rw [hl]; exact Nat.le_refl _, fun i x H' hi y => ?_⟩
  obtain ⟨rfl, c, hc, rfl⟩ := y
  exact ⟨.str ⟨#[c]⟩, by rw [List.getElem?_map, Array.getElem?_toList, hc]; rfl, Ge.refl, rh1, .str _⟩
theorem walk_r {T : Fx} {m : Nat → Addr} {N : Nat} {H : Hp} {lo : Int} {n : Nat} : WalkD T m N H ⟨rngD lo n, []⟩ (Itr lo n) := by
  intro m1 h1 H1 rh1 em hN tk ok
  have hl : (rngD lo n).length = n := by unfold rngD; rw [List.length_map, List.length_range]
  refine ⟨fun i hi => by rw [hl] at hi; exact hi, by rw [hl]; exact Nat.le_refl _, fun i x H' hi y => ?_⟩
  obtain ⟨rfl, rfl⟩ := y
  rw [hl] at hi
  exact ⟨.int (lo + (i : Int)), by unfold rngD; rw [List.getElem?_map, List.getElem?_range hi]; rfl, Ge.refl, rh1, .int _⟩
theorem walk_e {T : Fx} {m : Nat → Addr} {h : Hh} {H : Hp} {n : Nat} {ds : List D} (rh : RH T m h H) (e : lstAt h n = some ds) : WalkD T m h.length H ⟨ds.zipIdx.map fun p => .tup [.int (p.2 : Nat), p.1], [(n, ds)]⟩ (Ite T.K (m n)) := by
  intro m1 h1 H1 rh1 em hN tk ok
  have e1 : lstAt h1 n = some ds := ok (n, ds) (by simp)
  obtain ⟨hn, _⟩ := rh.lst e
  obtain ⟨_, vs, sq, q⟩ := rh1.lst e1
  rw [em n hn] at sq
  have w := walk_enum (K := T.K) (a := m n) (xs := vs)
  have hl : (ds.zipIdx.map fun p => D.tup [.int (p.2 : Nat), p.1]).length = vs.length := by rw [List.length_map, List.length_zipIdx, q.length]
  refine ⟨fun i hi => w.goes i H1 (by rw [← hl]; exact hi) sq, by show (Ite T.K (m n)).stop (ds.zipIdx.map _).length H1; rw [hl]; exact w.stops H1 sq, fun i x H' hi y => ?_⟩
  obtain ⟨t, x1, x2, rfl, nt, rfl, e3, e4⟩ := w.yields i H1 x H' (by rw [← hl]; exact hi) sq y
  cases e3
  obtain ⟨d, e2, r⟩ := q.getV e4
  obtain ⟨g, rh'⟩ := rh1.lay (u := .tup [.int (i : Nat), x2]) nt
  refine ⟨.tup [.int (i : Nat), d], ?_, g, rh', .tup (.inl (.inl upd_same)) (.cons (.int _) (.cons (g.rd r) .nil))⟩
  rw [List.getElem?_map, List.getElem?_zipIdx, e2]
  simp
theorem walk_z {T : Fx} {m : Nat → Addr} {h : Hh} {H : Hp} {n k : Nat} {ds es : List D} (rh : RH T m h H) (e : lstAt h n = some ds) (e' : lstAt h k = some es) :
    WalkD T m h.length H ⟨List.zipWith (fun x y => D.tup [x, y]) ds es, [(n, ds), (k, es)]⟩ (Itz T.K (m n) (m k)) := by
  intro m1 h1 H1 rh1 em hN tk ok
  have e1 : lstAt h1 n = some ds := ok (n, ds) (by simp)
  have e1' : lstAt h1 k = some es := ok (k, es) (by simp)
  obtain ⟨hn, _⟩ := rh.lst e
  obtain ⟨hk, _⟩ := rh.lst e'
  obtain ⟨_, vs, sq, q⟩ := rh1.lst e1
  obtain ⟨_, ws, sq', q'⟩ := rh1.lst e1'
  rw [em n hn] at sq
  rw [em k hk] at sq'
  have w := walk_zip (K := T.K) (a := m n) (b := m k) (xs := vs) (ys := ws) rfl
  have hl : (List.zipWith (fun x y => D.tup [x, y]) ds es).length = min vs.length ws.length := by rw [List.length_zipWith, q.length, q'.length]
  refine ⟨fun i hi => w.goes i H1 (by rw [← hl]; exact hi) ⟨sq, sq'⟩, by show (Itz T.K (m n) (m k)).stop (List.zipWith _ ds es).length H1; rw [hl]; exact w.stops H1 ⟨sq, sq'⟩, fun i x H' hi y => ?_⟩
  obtain ⟨t, x1, x2, rfl, nt, rfl, e3, e4⟩ := w.yields i H1 x H' (by rw [← hl]; exact hi) ⟨sq, sq'⟩ y
  obtain ⟨d, e2, r⟩ := q.getV e3
  obtain ⟨d', e2', r'⟩ := q'.getV e4
  obtain ⟨g, rh'⟩ := rh1.lay (u := .tup [x1, x2]) nt
  refine ⟨.tup [d, d'], ?_, g, rh', .tup (.inl (.inl upd_same)) (.cons (g.rd r) (.cons (g.rd r') .nil))⟩
  rw [List.getElem?_zipWith, e2, e2']
theorem walk_v {T : Fx} {m : Nat → Addr} {h : Hh} {H : Hp} {n : Nat} {ds : List D} (rh : RH T m h H) (e : lstAt h n = some ds) : WalkD T m h.length H ⟨ds.reverse, [(n, ds)]⟩ (Itv T.K (m n) ds.length) := by
  intro m1 h1 H1 rh1 em hN tk ok
  have e1 : lstAt h1 n = some ds := ok (n, ds) (by simp)
  obtain ⟨hn, _⟩ := rh.lst e
  obtain ⟨_, vs, sq, q⟩ := rh1.lst e1
  rw [em n hn] at sq
  have w := walk_rev (K := T.K) (a := m n) (xs := vs)
  rw [← q.length] at w
  refine ⟨fun i hi => w.goes i H1 (by rw [List.length_reverse] at hi; exact hi) sq, by rw [List.length_reverse]; exact w.stops H1 sq, fun i x H' hi y => ?_⟩
  rw [List.length_reverse] at hi
  obtain ⟨rfl, hx⟩ := w.yields i H1 x H' hi sq y
  obtain ⟨d, e2, r⟩ := q.getV hx
  exact ⟨d, by rw [List.getElem?_reverse hi]; exact e2, Ge.refl, rh1, r⟩
theorem pi_rng {X : Cx} {tg l : Expr} {tl : TE} (hl : PE X l tl) : PI X tg l (fun σ H R => tl σ H fun x H1 => ∃ a lo hi, x = V.ref a ∧ H1 a = some (.rng lo hi) ∧ (-(2 ^ 62) ≤ lo ∧ lo < 2 ^ 62 ∧ -(2 ^ 62) ≤ hi ∧ hi < 2 ^ 62) ∧ R (Itr lo (hi - lo).toNat) H1) := by
  refine ⟨fun pins s σ H R I h => ?_⟩
  refine thn (hl.run pins s σ H _ I h) fun v s1 ⟨x, H1, I1, r1, q1⟩ => ?_
  obtain ⟨a, lo, hi, e, ha, ⟨h1, h2, h3, h4⟩, q⟩ := q1
  subst e
  cases r1
  obtain ⟨t1, t2, t3, ho⟩ := I1.hok a _ ha
  refine wpAny_pyIter_range (show IsRange s1.heap a lo hi 1 t1 t2 t3 from ho) (small_one h1 h2 h3 h4) ?_
  refine ⟨s1.heap.objs.size, [s1.heap.objs.size], _, _, H1, rfl, I1.kept (t' := s1.toks) fun b o e => Heap.get?_push_of_some _ e, turn_range _ lo (hi - lo).toNat, ?_, fun b hb => ?_, q⟩
  · have e1 : lo + ((0 : Nat) : Int) * 1 = lo := by simp
    have e2 : (((hi - lo).toNat : Nat) : Int) - ((0 : Nat) : Int) = Builtin.Range.rangeSize lo hi 1 := by rw [rangeSize_one]; split <;> omega
    show IsRangeIter _ _ (lo + ((0 : Nat) : Int) * 1) ((((hi - lo).toNat : Nat) : Int) - ((0 : Nat) : Int)) 1
    rw [e1, e2]
    exact Heap.get?_push_size _ rfl
  · have e : b = s1.heap.objs.size := by simpa using hb
    subst e
    exact I1.fpOk (Nat.le_refl _) (I1.hok.fresh (Nat.le_refl _))
theorem i_seq {tg : Expr} (ha : PE X a (PE_ (FX X cv fn xs) W fa)) : PI X tg a (PI_ (FX X cv fn xs) W (iSeq fa)) := by
  refine ⟨fun pins s σ H R I hq => ?_⟩
  obtain ⟨m, e, h, rh, re, p⟩ := hq
  have p0 := p
  unfold iSeq at p0
  cases q : fa e h with
  | stuck => rw [q] at p0; exact p0.elim
  | exc x h1 =>
    refine (pi_list (tg := tg) ha).run pins s σ H R I ⟨m, e, h, rh, re, ?_⟩
    rw [q] at p0 ⊢
    exact p0
  | ok d h1 =>
    rw [q] at p0
    cases d with
    | tup ds =>
      refine (pi_tup (tg := tg) ha).run pins s σ H R I ⟨m, e, h, rh, re, ?_⟩
      rw [q]
      intro m1 H1 v g1 rh1 r
      cases r with
      | tup sq r => exact ⟨_, rfl, ⟨_, sq⟩, p0 m1 H1 _ g1 rh1 (walk_t sq r)⟩
    | str z =>
      refine (pi_str (tg := tg) ha).run pins s σ H R I ⟨m, e, h, rh, re, ?_⟩
      rw [q]
      intro m1 H1 v g1 rh1 r
      cases r
      exact ⟨z, rfl, p0 m1 H1 _ g1 rh1 walk_s⟩
    | ref n =>
      refine (pi_list (tg := tg) ha).run pins s σ H R I ⟨m, e, h, rh, re, ?_⟩
      rw [q]
      intro m1 H1 v g1 rh1 r
      cases r
      cases q2 : lstAt h1 n with
      | none =>
        have p1 : PO (FX X cv fn xs) W (WalkD (FX X cv fn xs)) σ m h H (match lstAt h1 n with | some ds => Mn.R.ok (⟨ds, [(n, ds)]⟩ : Sq) h1 | none => .stuck) R := p0
        rw [q2] at p1
        exact p1.elim
      | some ds =>
        have p1 : PO (FX X cv fn xs) W (WalkD (FX X cv fn xs)) σ m h H (match lstAt h1 n with | some ds => Mn.R.ok (⟨ds, [(n, ds)]⟩ : Sq) h1 | none => .stuck) R := p0
        rw [q2] at p1
        obtain ⟨_, vs, sq, _⟩ := rh1.lst q2
        exact ⟨_, rfl, ⟨vs, sq⟩, p1 m1 H1 _ g1 rh1 (walk_l rh1 q2)⟩
    | rg lo hi =>
      refine (pi_rng (tg := tg) ha).run pins s σ H R I ⟨m, e, h, rh, re, ?_⟩
      rw [q]
      intro m1 H1 v g1 rh1 r
      cases r with
      | rg hr =>
        change PO (FX X cv fn xs) W (WalkD (FX X cv fn xs)) σ m h H (rng lo hi h1) R at p0
        unfold rng at p0
        split at p0
        · rename_i hz
          exact ⟨_, _, _, rfl, hr, hz, p0 m1 H1 _ g1 rh1 walk_r⟩
        · exact p0.elim
    | non => exact p0.elim
    | bl _ => exact p0.elim
    | int _ => exact p0.elim
end
end Mn
namespace PySem
open Sem (wp)
open AutoSeq1 (wpAny_loadPart')
theorem mn_meets_enumT (l : Addr) (items : Array Value) (n : Nat) (dct : Option Addr) (sl : Array (Option Value)) :
    Meets (Builtin.«enumerate.__new__» ⟨[.type "enumerate", .ref l], []⟩) (fun _ R s => s.heap.get? l = some { cls := .type "tuple", dict := dct, data := .seq items n, slots := sl } ∧
      R (.ok (.ret (.ref (s.heap.push { cls := .type "tuple_iterator", data := .fields #[.ref l, .int 0 0] }).objs.size)))
        { s with heap := (s.heap.push { cls := .type "tuple_iterator", data := .fields #[.ref l, .int 0 0] }).push { cls := .type "enumerate", data := .fields #[.none, .bool false, .ref s.heap.objs.size, rawInt 0, .none, .none] } }) :=
  .of_wp fun prog w A R s h => by
    obtain ⟨hp, g, d, tk, os⟩ := s; obtain ⟨hl, h⟩ := h
    have hsub := sub_enumerate
    have hL : Heap.IsTuple (Shared.heap ⟨hp, g, d, tk, os⟩) l items := ⟨_, hl, rfl, n, rfl⟩
    wp_walk using wpAny_loadPart' hl
    refine wpAny_stack_any fun st => wpAny_pure ?_
    split
    · rename_i c _ _ _ _ _
      cases (c == Value.type "enumerate")
      · wp_walk using wpAny_loadPart' hl, wpAny_pyIter_tuple hL
        exact ⟨_, rfl, h⟩
      · wp_walk using wpAny_loadPart' hl, wpAny_pyIter_tuple hL
        exact ⟨_, rfl, h⟩
    · wp_walk using wpAny_loadPart' hl, wpAny_pyIter_tuple hL
      exact ⟨_, rfl, h⟩
section
variable {prog : Program} {w : World} {A : Around} {E : Value → Shared → Prop} {s : Shared}
theorem mn_call_enumT {l : Addr} {items : Array Value} {Q : Value → Shared → Prop} (hL : s.heap.IsTuple l items)
    (h : ∀ h', IsEnum h' (s.heap.objs.size + 1) s.heap.objs.size 0 .none → h'.IsTupleIter s.heap.objs.size l 0 → h'.objs.size = s.heap.objs.size + 2 →
      (∀ b o, s.heap.get? b = some o → h'.get? b = some o) → Q (.ref (s.heap.objs.size + 1)) { s with heap := h' }) :
    wpAny (model prog w) A (call (.type "enumerate") [.ref l]) Q E s := by
  obtain ⟨⟨c, dct, dt, sl⟩, hl, hc, n, hd⟩ := hL
  replace hc : c = .type "tuple" := hc
  replace hd : dt = .seq items n := hd
  subst hc hd
  refine callType_new F.called_enumerate (by decide) (F.typeCall_enumerate_1 _) (F.newCall_enumerate_1 _) (fun obj => F.args_object_init_2 obj _) F.entry_enumerate_new
    (mn_meets_enumT l items n dct sl) ⟨hl, ?_⟩
  have hz : (s.heap.push { cls := .type "tuple_iterator", data := .fields #[.ref l, .int 0 0] }).objs.size = s.heap.objs.size + 1 := Heap.size_push ..
  show _ ∧ _
  rw [hz]
  have he : IsEnum ((s.heap.push { cls := .type "tuple_iterator", data := .fields #[.ref l, .int 0 0] }).push
      { cls := .type "enumerate", data := .fields #[.none, .bool false, .ref s.heap.objs.size, rawInt 0, .none, .none] }) (s.heap.objs.size + 1) s.heap.objs.size 0 .none := by
    have := Heap.get?_push_size (s.heap.push { cls := .type "tuple_iterator", data := .fields #[.ref l, .int 0 0] })
      (o := { cls := .type "enumerate", data := .fields #[.none, .bool false, .ref s.heap.objs.size, rawInt 0, .none, .none] }) rfl
    rw [hz] at this; exact this
  refine ⟨⟨_, he, rfl⟩, h _ he ⟨_, Heap.get?_push_of_some _ (Heap.get?_push_size _ rfl), rfl, rfl⟩ (by rw [Heap.size_push, hz]) fun b o x => Heap.get?_push_of_some _ (Heap.get?_push_of_some _ x)⟩
end
end PySem
namespace Mn
open PySem PySem.Spec PyProof.Rows L2
def IteT (K : PySem.W.Frag) (a : Addr) : It :=
  ⟨fun i H => ∃ (xs : List V) (x : V), SqT K H a xs ∧ xs[i]? = some x, fun i H v H' => ∃ T x, v = .ref T ∧ H T = none ∧ H' = upd H T (.tup [.int (i : Nat), x]) ∧ ∀ xs, SqT K H a xs → xs[i]? = some x, fun i H => ∃ xs : List V, SqT K H a xs ∧ xs.length ≤ i⟩
theorem turn_enumT {P : Program} {w : World} {K : PySem.W.Frag} {elts : List Expr} {kk : Nat} {tpos : Pos} (a e it : Addr) :
    Turn P w K (.Tuple elts kk tpos) (IteT K a) [e, it] e (fun i h => (∃ old, IsEnum h e it ((i : Nat) : Int) old) ∧ h.IsTupleIter it a i ∧ e ≠ it) where
  mem := by simp
  obj := fun i h st b hb => by
    obtain ⟨⟨old, he⟩, ⟨o, ho, hc, hd⟩, _⟩ := st
    rcases (by simpa using hb : b = e ∨ b = it) with z | z
    · rw [z]; exact ⟨_, he, fun v q => nomatch q⟩
    · rw [z]; exact ⟨o, ho, fun v q => by rw [hd] at q; cases q⟩
  keep := fun i h h' st k => let ⟨⟨old, he⟩, hi, hne⟩ := st; ⟨⟨old, k e (by simp) _ he⟩, hi.at fun o q => k it (by simp) o q, hne⟩
  item := by
    intro X hP hw hK hc i pins s σ H E I hf st hg
    subst hP hw hK
    obtain ⟨⟨old, he⟩, hit, hne⟩ := st
    obtain ⟨xs, x, hq, hx⟩ := hg
    obtain ⟨its, rv, p, hz⟩ := I.tuple hq
    obtain ⟨u, hu, ru⟩ := rv.get hx
    have hT : s.heap.IsTuple a its.toArray := p
    have hai : a ≠ it := fun z => by
      obtain ⟨o1, g1, c1, _⟩ := hT
      obtain ⟨o2, g2, c2, _⟩ := hit
      rw [z, g2] at g1
      cases g1
      exact absurd (Value.type.inj (c1.symm.trans c2)) (by decide)
    have hae : e ≠ a := fun z => by
      obtain ⟨o1, g1, c1, _⟩ := hT
      rw [← z, he] at g1
      cases g1
      exact absurd (Value.type.inj (show Value.type "enumerate" = .type "tuple" from c1)) (by decide)
    have hel : e < s.heap.objs.size := Heap.lt_size he
    have hil : it < s.heap.objs.size := by obtain ⟨_, q, _⟩ := hit; exact Heap.lt_size q
    have hin : i < its.toArray.size := (Array.getElem?_eq_some_iff.mp (show its.toArray[i]? = some u by simpa using hu)).1
    refine wpAny_pyNext_enum_itemD (Draws.tuple (A := X.A.in1) (show X.A.in1.handled = none from I.ok.hd hc) it a hai its.toArray) he ⟨hit, hT⟩ hin hne (by simp [hne, hae]) fun y h' tk hy ho hst' hTp hsz hk => ?_
    have ey : y = u := by
      have hu' : its.toArray[i]? = some u := by simpa using hu
      rw [hy] at hu'
      exact Option.some.inj hu'
    subst ey
    obtain ⟨hit', hT'⟩ := hst'
    refine ⟨_, rfl, wpAny_letOwnedTupleGo_enum (s := { s with heap := h', toks := tk + 1 }) ho fun h'' he' sb => ?_⟩
    have hT2 : h''.get? s.heap.objs.size = some { cls := .type "tuple", data := .seq #[.int i tk, y] } := (sb.2 _ (Nat.ne_of_gt hel)).trans hTp
    have new : ObjOk X.prog X.w (upd H s.heap.objs.size (.tup [.int (i : Nat), x])) h'' s.heap.objs.size (.tup [.int (i : Nat), x]) :=
      ⟨by show 2 ≤ sizeLine; decide, [.int i tk, y], .cons ⟨_, rfl⟩ (.cons ru .nil), ⟨_, hT2, rfl, _, rfl⟩⟩
    have I1 : Inv X pins σ (upd H s.heap.objs.size (.tup [.int (i : Nat), x])) { s with heap := h'', toks := tk + 1 } :=
      I.turnedNew (ch := [e, it]) (fun b ob hb q => (sb.2 b (fun z => hb (by simp [z]))).trans (hk b ob (fun z => hb (by simp [z])) (fun z => hb (by simp [z])) q)) hf (Nat.le_refl _) new
    refine ⟨.ref s.heap.objs.size, _, I1, rfl, ⟨_, x, rfl, I.hok.fresh (Nat.le_refl _), rfl, fun ys hy => by rw [I.tuple_inj hy hq]; exact hx⟩, ⟨⟨y, ?_⟩, hit'.at fun o q => (sb.2 it (Ne.symm hne)).trans q, hne⟩, fun b hb => ?_⟩
    · have e1 : ((i + 1 : Nat) : Int) = (i : Int) + 1 := by omega
      rw [e1]; exact he'
    · have hb' : b < s.heap.objs.size := by
        rcases (by simpa using hb : b = e ∨ b = it) with z | z
        · rw [z]; exact hel
        · rw [z]; exact hil
      rw [upd_ne (Nat.ne_of_lt hb')]
      exact (hf b hb).1
  done := by
    intro X hP hw hK hc i pins s σ H E I hf st hg
    subst hP hw hK
    obtain ⟨⟨old, he⟩, hit, hne⟩ := st
    obtain ⟨xs, hq, hx⟩ := hg
    obtain ⟨its, rv, p, hz⟩ := I.tuple hq
    obtain ⟨f0, f1, f2, f3, f4, f5⟩ := hf it (by simp)
    have hl := rv.length
    have hT : s.heap.IsTuple a its.toArray := p
    have D : Draws X.prog X.w X.A.in1 it [it, a] 0 (fun _ _ => True) (fun _ h => h.IsTupleIter it a i ∧ h.IsTuple a its.toArray) :=
      { live := fun _ _ st => let ⟨o, ho, _⟩ := st.1; ⟨o, ho⟩
        frame := fun _ _ _ st hk => ⟨st.1.at fun o e => hk it (by simp) o e, st.2.at fun o e => hk a (by simp) o e⟩
        item := fun i s Q E hi => absurd hi (Nat.not_lt_zero _)
        done := fun s Q E st hE => wpAny_nextOf_tuple_end (show X.A.in1.handled = none from I.ok.hd hc) st.1 st.2 (by simp; omega) hE }
    exact wpAny_pyNext_enum_endD D he ⟨hit, hT⟩ fun h' eb => ⟨rfl, I.turned (t' := s.toks) (fun b o hb q => eb b o hb q) f0 f1 f3 f4 f5⟩
  self := fun A i s Q E st h => let ⟨⟨_, he⟩, _⟩ := st; wpAny_pyIter_enum he h
def iEnumA (K : PySem.W.Frag) (ta : TA) : TI := fun σ H R => ta σ H fun vs H1 => ∃ a xs, vs = [.ref a] ∧ ((SqL K H1 a xs ∧ R (Ite K a) H1) ∨ (SqT K H1 a xs ∧ R (IteT K a) H1))
theorem pi_enumA {X : Cx} {e : Expr} {ta : TA} {p pos tpos : Pos} {elts : List Expr} {kk : Nat} (hg : Gl X "enumerate") (hm : X.mg "enumerate" = none) (ha : PA X [e] ta) (hs : starEach [e] X.env = [(false, eval e X.env)]) :
    PI X (.Tuple elts kk tpos) (.Call (.Name "enumerate" p) [e] [] pos) (iEnumA X.K ta) := by
  refine ⟨fun pins s σ H R I h => ?_⟩
  refine Call_ (ld_blt I hg hm boot_enumerate (PyProof.Rows.callWith_type1 (thn (ha.run pos pins s σ H _ I h) fun us s1 ⟨vs, H1, I1, r1, q1⟩ => ?_) hs rfl))
  obtain ⟨a, xs, ex, q1⟩ := q1
  subst ex
  cases r1 with
  | cons r rr =>
    cases rr
    cases r
    have hfp : ∀ b, b ∈ [s1.heap.objs.size + 1, s1.heap.objs.size] → FpOk X pins H1 b := fun b hb => by
      have hle : s1.heap.objs.size ≤ b := by
        rcases (by simpa using hb : b = s1.heap.objs.size + 1 ∨ b = s1.heap.objs.size) with z | z
        · rw [z]; exact Nat.le_add_right _ _
        · rw [z]; exact Nat.le_refl _
      exact I1.fpOk hle (I1.hok.fresh hle)
    rcases q1 with ⟨hq, q⟩ | ⟨hq, q⟩
    · obtain ⟨its, rv, p', hz⟩ := I1.list hq
      refine call_enumerate_list p'.isList fun h' he hit hsz hk => wpAny_pyIter_enum he ?_
      have I2 : Inv X pins σ H1 { s1 with heap := h' } := I1.kept (t' := s1.toks) hk
      exact ⟨s1.heap.objs.size + 1, [s1.heap.objs.size + 1, s1.heap.objs.size], _, _, H1, rfl, I2, turn_enum a (s1.heap.objs.size + 1) s1.heap.objs.size, ⟨⟨.none, he⟩, hit, Nat.succ_ne_self _⟩, hfp, q⟩
    · obtain ⟨its, rv, p', hz⟩ := I1.tuple hq
      refine mn_call_enumT (show s1.heap.IsTuple a its.toArray from p') fun h' he hit hsz hk => wpAny_pyIter_enum he ?_
      have I2 : Inv X pins σ H1 { s1 with heap := h' } := I1.kept (t' := s1.toks) hk
      exact ⟨s1.heap.objs.size + 1, [s1.heap.objs.size + 1, s1.heap.objs.size], _, _, H1, rfl, I2, turn_enumT a (s1.heap.objs.size + 1) s1.heap.objs.size, ⟨⟨.none, he⟩, hit, Nat.succ_ne_self _⟩, hfp, q⟩
theorem walk_eT {T : Fx} {m : Nat → Addr} {h : Hh} {H : Hp} {a : Addr} {ds : List D} {vs : List V} (sq : SqT T.K H a vs) (q : RDs T.K m h.length H ds vs) : WalkD T m h.length H ⟨ds.zipIdx.map fun p => .tup [.int (p.2 : Nat), p.1], []⟩ (IteT T.K a) := by
  intro m1 h1 H1 rh1 em hN tk ok
  have sq1 := tk.seq sq
  have q1 := q.mono tk em hN
  have hl : (ds.zipIdx.map fun p => D.tup [.int (p.2 : Nat), p.1]).length = vs.length := by rw [List.length_map, List.length_zipIdx, q.length]
  refine ⟨fun i hi => ⟨vs, vs[i]'(by rw [← hl]; exact hi), sq1, by rw [List.getElem?_eq_getElem]⟩, ⟨vs, sq1, by rw [hl]; exact Nat.le_refl _⟩, fun i x H' hi y => ?_⟩
  obtain ⟨t, x2, rfl, nt, rfl, e4⟩ := y
  obtain ⟨d, e2, r⟩ := q1.getV (e4 vs sq1)
  obtain ⟨g, rh'⟩ := rh1.lay (u := .tup [.int (i : Nat), x2]) nt
  refine ⟨.tup [.int (i : Nat), d], ?_, g, rh', .tup (.inl (.inl upd_same)) (.cons (.int _) (.cons (g.rd r) .nil))⟩
  rw [List.getElem?_map, List.getElem?_zipIdx, e2]
  simp
theorem walk_zT {T : Fx} {m : Nat → Addr} {h : Hh} {H : Hp} {a b : Addr} {ds es : List D} {vs ws : List V} (sq : SqT T.K H a vs) (sq' : SqT T.K H b ws) (q : RDs T.K m h.length H ds vs) (q' : RDs T.K m h.length H es ws) : WalkD T m h.length H ⟨List.zipWith (fun x y => D.tup [x, y]) ds es, []⟩ (RZ.ItzT T.K a b) := by
  intro m1 h1 H1 rh1 em hN tk ok
  have sq1 := tk.seq sq
  have sq2 := tk.seq sq'
  have q1 := q.mono tk em hN
  have q2 := q'.mono tk em hN
  have hl : (List.zipWith (fun x y => D.tup [x, y]) ds es).length = min vs.length ws.length := by rw [List.length_zipWith, q.length, q'.length]
  refine ⟨fun i hi => ?_, ⟨vs, ws, sq1, sq2, by rw [hl]; omega⟩, fun i x H' hi y => ?_⟩
  · have z1 : i < vs.length := by have := hi; rw [hl] at this; omega
    have z2 : i < ws.length := by have := hi; rw [hl] at this; omega
    exact ⟨vs, ws, vs[i], ws[i], sq1, sq2, by rw [List.getElem?_eq_getElem], by rw [List.getElem?_eq_getElem]⟩
  obtain ⟨t, x1, x2, rfl, nt, rfl, e3, e4⟩ := y
  obtain ⟨d, e5, r⟩ := q1.getV (e3 vs sq1)
  obtain ⟨d', e6, r'⟩ := q2.getV (e4 ws sq2)
  obtain ⟨g, rh'⟩ := rh1.lay (u := .tup [x1, x2]) nt
  refine ⟨.tup [d, d'], ?_, g, rh', .tup (.inl (.inl upd_same)) (.cons (g.rd r) (.cons (g.rd r') .nil))⟩
  rw [List.getElem?_zipWith, e5, e6]
end Mn
namespace Mn
open PySem L2
section
variable {X : Cx} {cv : Nat → Value} {fn : Nat → Str} {xs : Xs} {W : WX} {pos : Pos} {a b c tg : Expr} {fa fb fc : ED} {t u : TD}
theorem pa1 {ta : TE} (ha : PE X a ta) (hs : starEach [a] X.env = [(false, eval a X.env)]) : PA X [a] (fun σ H Q => ta σ H fun x H1 => Q [x] H1) :=
  paImp (pa_cons ha pa_nil (by rw [hs]; rfl)) fun _ _ _ q => q
theorem pa2 {ta tb : TE} (ha : PE X a ta) (hb : PE X b tb) (hs : starEach [a, b] X.env = [(false, eval a X.env), (false, eval b X.env)]) (hs2 : starEach [b] X.env = [(false, eval b X.env)]) : PA X [a, b] (fun σ H Q => ta σ H fun x H1 => tb σ H1 fun y H2 => Q [x, y] H2) :=
  paImp (pa_cons ha (pa_cons hb pa_nil (by rw [hs2]; rfl)) (by rw [hs, hs2])) fun _ _ _ q => q
theorem rng1_imp {σ : L2.St} {H : Hp} {R : It → Hp → Prop} (q : PI_ (FX X cv fn xs) W (iRange1 fa) σ H R) : iRng1 (fun σ H Q => PE_ (FX X cv fn xs) W fa σ H fun x H1 => Q [x] H1) σ H R := by
  obtain ⟨m, e, h, rh, re, p⟩ := q
  refine ⟨m, e, h, rh, re, p.bind fun d h1 m1 H1 v g1 rh1 rx p1 => ?_⟩
  cases d with
  | int hi =>
    cases rx
    change PO (FX X cv fn xs) W (WalkD (FX X cv fn xs)) σ m1 h1 H1 (rng 0 hi h1) R at p1
    unfold rng at p1
    split at p1
    · rename_i hz
      refine ⟨_, rfl, hz.2.2.1, hz.2.2.2, ?_⟩
      have q := p1 m1 H1 _ Ge.refl rh1 walk_r
      rw [Int.sub_zero] at q
      exact q
    · exact p1.elim
  | _ => exact p1.elim
theorem i_range1 {p : Pos} (hg : Gl X "range") (hm : X.mg "range" = none) (ha : PE X a (PE_ (FX X cv fn xs) W fa)) (hs : starEach [a] X.env = [(false, eval a X.env)]) : PI X tg (.Call (.Name "range" p) [a] [] pos) (PI_ (FX X cv fn xs) W (iRange1 fa)) :=
  piImp (pi_range1 hg hm (pa1 ha hs) hs) fun σ H R q => rng1_imp q
theorem i_range2 {p : Pos} (hg : Gl X "range") (hm : X.mg "range" = none) (ha : PE X a (PE_ (FX X cv fn xs) W fa)) (hb : PE X b (PE_ (FX X cv fn xs) W fb)) (hs : starEach [a, b] X.env = [(false, eval a X.env), (false, eval b X.env)]) (hs2 : starEach [b] X.env = [(false, eval b X.env)]) :
    PI X tg (.Call (.Name "range" p) [a, b] [] pos) (PI_ (FX X cv fn xs) W (iRange2 fa fb)) := by
  refine piImp (pi_range2 hg hm (pa2 ha hb hs hs2) hs hs2) fun σ H R q => ?_
  obtain ⟨m, e, h, rh, re, p⟩ := q
  refine ⟨m, e, h, rh, re, p.bind fun d h1 m1 H1 v g1 rh1 rx p1 => ⟨m1, e, h1, rh1, g1.re re, p1.bind fun d2 h2 m2 H2 v2 g2 rh2 rx2 p2 => ?_⟩⟩
  cases d with
  | int lo =>
    cases d2 with
    | int hi =>
      cases rx
      cases rx2
      change PO (FX X cv fn xs) W (WalkD (FX X cv fn xs)) σ m2 h2 H2 (rng lo hi h2) R at p2
      unfold rng at p2
      split at p2
      · rename_i hz
        exact ⟨_, _, rfl, ⟨hz.1, hz.2.1, hz.2.2.1, hz.2.2.2⟩, p2 m2 H2 _ Ge.refl rh2 walk_r⟩
      · exact p2.elim
    | _ => exact p2.elim
  | _ => exact p2.elim
theorem i_enum {p tpos : Pos} {elts : List Expr} {kk : Nat} (hg : Gl X "enumerate") (hm : X.mg "enumerate" = none) (ha : PE X a (PE_ (FX X cv fn xs) W fa)) (hs : starEach [a] X.env = [(false, eval a X.env)]) : PI X (.Tuple elts kk tpos) (.Call (.Name "enumerate" p) [a] [] pos) (PI_ (FX X cv fn xs) W (iEnum fa)) := by
  refine piImp (pi_enumA hg hm (pa1 ha hs) hs) fun σ H R q => ?_
  obtain ⟨m, e, h, rh, re, p⟩ := q
  refine ⟨m, e, h, rh, re, p.bind fun d h1 m1 H1 v g1 rh1 rx p1 => ?_⟩
  cases d with
  | tup ds =>
    cases rx with
    | tup sq r => exact ⟨_, _, rfl, .inr ⟨sq, p1 m1 H1 _ Ge.refl rh1 (walk_eT sq r)⟩⟩
  | ref n =>
    cases rx
    change PO (FX X cv fn xs) W (WalkD (FX X cv fn xs)) σ m1 h1 H1 (match lstAt h1 n with | some ds => Mn.R.ok (⟨ds.zipIdx.map fun p => .tup [.int (p.2 : Nat), p.1], [(n, ds)]⟩ : Sq) h1 | none => .stuck) R at p1
    split at p1
    · rename_i q2
      obtain ⟨_, vs, sq, _⟩ := rh1.lst q2
      exact ⟨_, _, rfl, .inl ⟨sq, p1 m1 H1 _ Ge.refl rh1 (walk_e rh1 q2)⟩⟩
    · exact p1.elim
  | _ => exact p1.elim
theorem i_zip {p tpos : Pos} {elts : List Expr} {kk : Nat} (hg : Gl X "zip") (hm : X.mg "zip" = none) (ha : PE X a (PE_ (FX X cv fn xs) W fa)) (hb : PE X b (PE_ (FX X cv fn xs) W fb)) (hs : starEach [a, b] X.env = [(false, eval a X.env), (false, eval b X.env)]) (hs2 : starEach [b] X.env = [(false, eval b X.env)])
    (hpl : (backTo pos (starEach [b] X.env)).any (·.1) = false) : PI X (.Tuple elts kk tpos) (.Call (.Name "zip" p) [a, b] [] pos) (PI_ (FX X cv fn xs) W (iZip fa fb)) := by
  refine piImp (RZ.pi_zipA hg hm (pa2 ha hb hs hs2) (by rw [hs, hs2]) hpl) fun σ H R q => ?_
  obtain ⟨m, e, h, rh, re, p⟩ := q
  refine ⟨m, e, h, rh, re, p.bind fun d h1 m1 H1 v g1 rh1 rx p1 => ⟨m1, e, h1, rh1, g1.re re, p1.bind fun d2 h2 m2 H2 v2 g2 rh2 rx2 p2 => ?_⟩⟩
  cases d with
  | tup ds =>
    cases d2 with
    | tup es =>
      have rx := g2.rd rx
      cases rx with
      | tup sq r =>
        cases rx2 with
        | tup sq' r' => exact ⟨_, _, _, _, rfl, .inr ⟨sq, sq', p2 m2 H2 _ Ge.refl rh2 (walk_zT sq sq' r r')⟩⟩
    | _ => exact p2.elim
  | ref n =>
    cases d2 with
    | ref k =>
      have rx := g2.rd rx
      cases rx
      cases rx2
      change PO (FX X cv fn xs) W (WalkD (FX X cv fn xs)) σ m2 h2 H2 (match lstAt h2 n, lstAt h2 k with | some ds, some es => Mn.R.ok (⟨List.zipWith (fun x y => .tup [x, y]) ds es, [(n, ds), (k, es)]⟩ : Sq) h2 | _, _ => .stuck) R at p2
      split at p2
      · rename_i q1 q2
        obtain ⟨_, vs, sq, _⟩ := rh2.lst q1
        obtain ⟨_, ws, sq', _⟩ := rh2.lst q2
        exact ⟨_, _, _, _, rfl, .inl ⟨sq, sq', p2 m2 H2 _ Ge.refl rh2 (walk_z rh2 q1 q2)⟩⟩
      · exact p2.elim
    | _ => exact p2.elim
  | _ => exact p2.elim
theorem i_rev {p : Pos} (hg : Gl X "reversed") (hm : X.mg "reversed" = none) (ha : PE X a (PE_ (FX X cv fn xs) W fa)) (hs : starEach [a] X.env = [(false, eval a X.env)]) : PI X tg (.Call (.Name "reversed" p) [a] [] pos) (PI_ (FX X cv fn xs) W (iRev fa)) := by
  refine piImp (pi_reversed hg hm (pa1 ha hs) hs) fun σ H R q => ?_
  obtain ⟨m, e, h, rh, re, p⟩ := q
  refine ⟨m, e, h, rh, re, p.bind fun d h1 m1 H1 v g1 rh1 rx p1 => ?_⟩
  cases d with
  | ref n =>
    cases rx
    change PO (FX X cv fn xs) W (WalkD (FX X cv fn xs)) σ m1 h1 H1 (match lstAt h1 n with | some ds => Mn.R.ok (⟨ds.reverse, [(n, ds)]⟩ : Sq) h1 | none => .stuck) R at p1
    split at p1
    · rename_i q2
      obtain ⟨_, vs, sq, r⟩ := rh1.lst q2
      refine ⟨_, _, rfl, sq, ?_⟩
      rw [← r.length]
      exact p1 m1 H1 _ Ge.refl rh1 (walk_v rh1 q2)
    · exact p1.elim
  | _ => exact p1.elim
def But (is : List Nat) (σ σ' : L2.St) : Prop := σ'.length = σ.length ∧ ∀ j, j ∉ is → σ'[j]? = σ[j]?
def PG_ (T : Fx) (is : List Nat) (g : Tg) : TG := fun v σ H Q => ∃ m h d e e1, RH T m h H ∧ RE T m h.length H e σ ∧ RD T.K m h.length H d v ∧ g d e = some e1 ∧ ∀ σ', RE T m h.length H e1 σ' → But is σ σ' → Q σ' H
theorem pgImp {tg : Expr} {t t' : TG} (h : PG X tg t) (w : ∀ v σ H Q, t' v σ H Q → t v σ H Q) : PG X tg t' := ⟨fun pins s σ H v u Q I r q => h.run pins s σ H v u Q I r (w v σ H Q q)⟩
theorem g_n {i : Nat} {x : Str} (nx : Nx (FX X cv fn xs) i) (hN : X.N.Nodup) (hi : X.N[i]? = some x) (hx : Loc X.env.scope x) (hf : X.fn x = true ∨ X.env.scope.names.lookup x = some .local) : PG X (.Name x pos) (PG_ (FX X cv fn xs) [i] (gN i)) :=
  pgImp (pg_name hN hi hx hf) fun v σ H Q q => by
    obtain ⟨m, h, d, e, e1, rh, re, rd, eg, k⟩ := q
    cases eg
    exact k _ (re.set i nx rd) ⟨List.length_set .., fun j hj => List.getElem?_set_ne fun z => hj (by simp [z])⟩
def setAll (σ : L2.St) (ps : List (Nat × V)) : L2.St := ps.foldl (fun σ p => σ.set p.1 (some p.2)) σ
theorem setAll_but : ∀ {is : List Nat} {vs : List V} {σ : L2.St}, But is σ (setAll σ (is.zip vs))
  | [], _, _ => by rw [List.zip_nil_left]; exact ⟨rfl, fun _ _ => rfl⟩
  | i :: is, [], _ => by rw [List.zip_nil_right]; exact ⟨rfl, fun _ _ => rfl⟩
  | i :: is, v :: vs, σ => by
    rw [List.zip_cons_cons]
    obtain ⟨h1, h2⟩ := setAll_but (is := is) (vs := vs) (σ := σ.set i (some v))
    refine ⟨h1.trans (List.length_set ..), fun j hj => ?_⟩
    simp only [List.mem_cons, not_or] at hj
    exact (h2 j hj.2).trans (List.getElem?_set_ne (Ne.symm hj.1))
theorem wipe_at : ∀ (vs : List Nat) (σ : L2.St) (j : Nat), (L2.wipe σ vs)[j]? = if j ∈ vs ∧ j < σ.length then some none else σ[j]?
  | [], σ, j => by
    rw [if_neg (fun z => by simp at z)]
    rfl
  | v :: vs, σ, j => by
    show ((L2.wipe σ vs).set v none)[j]? = _
    by_cases hv : v = j
    · subst hv
      by_cases hl : v < σ.length
      · rw [List.getElem?_set_self (by rw [L2.wipe_length]; exact hl), if_pos ⟨by simp, hl⟩]
      · rw [List.getElem?_eq_none (by rw [List.length_set, L2.wipe_length]; omega), if_neg (fun z => hl z.2), List.getElem?_eq_none (by omega)]
    · rw [List.getElem?_set_ne hv, wipe_at vs σ j]
      have e : (j ∈ v :: vs ∧ j < σ.length) ↔ (j ∈ vs ∧ j < σ.length) := by simp [Ne.symm hv]
      simp only [e]
theorem wipe_but {is own : List Nat} {σ σ' : L2.St} (b : But is (L2.wipe σ own) σ') (hs : ∀ i ∈ is, i ∈ own) : L2.wipe σ' own = L2.wipe σ own := by
  have hl : σ'.length = σ.length := b.1.trans (L2.wipe_length _ _)
  apply List.ext_getElem?
  intro j
  rw [wipe_at, wipe_at, hl]
  by_cases hj : j ∈ own
  · by_cases h2 : j < σ.length
    · rw [if_pos ⟨hj, h2⟩, if_pos ⟨hj, h2⟩]
    · rw [if_neg (fun z => h2 z.2), if_neg (fun z => h2 z.2), List.getElem?_eq_none (by omega), List.getElem?_eq_none (by omega)]
  · rw [if_neg (fun z => hj z.1), if_neg (fun z => hj z.1), b.2 j (fun z => hj (hs j z)), wipe_at, if_neg (fun z => hj z.1)]
def gls (is : List Nat) : TGs := fun vs σ H Q => vs.length = is.length ∧ Q (setAll σ (is.zip vs)) H
def nmOk (X : Cx) : Expr → Nat → Prop
  | .Name x _, i => X.N[i]? = some x ∧ Loc X.env.scope x ∧ (X.fn x = true ∨ X.env.scope.names.lookup x = some .local)
  | _, _ => False
theorem pgs_names (hN : X.N.Nodup) : ∀ (es : List Expr) (is : List Nat), Paired (nmOk X) es is → PGs X es (gls is) ∧ (assignEach es X.env).length = is.length ∧ (assignEach es X.env).findIdx? (·.1) = none
  | [], _, .nil => ⟨⟨fun pins s σ H vs us Q I r q => (pgs_nil (X := X)).run pins s σ H vs us Q I r ⟨List.eq_nil_of_length_eq_zero q.1, by
      have e : vs = [] := List.eq_nil_of_length_eq_zero q.1
      subst e
      exact q.2⟩⟩, rfl, rfl⟩
  | .Name x p :: es, i :: is, .cons ho hr => by
    obtain ⟨h1, h2, h3⟩ := pgs_names hN es is hr
    have g := pg_name (pos := p) hN ho.1 ho.2.1 ho.2.2
    refine ⟨⟨fun pins s σ H vs us Q I r q => (pgs_cons g h1 (by rfl)).run pins s σ H vs us Q I r ?_⟩, ?_, ?_⟩
    · obtain ⟨hl, q⟩ := q
      cases vs with
      | nil => cases hl
      | cons v vs => exact ⟨v, vs, rfl, Nat.succ.inj hl, q⟩
    · show (assignEach es X.env).length + 1 = _
      rw [h2]
      rfl
    · show List.findIdx? (·.1) ((false, assign (.Name x p) X.env) :: assignEach es X.env) = none
      rw [List.findIdx?_cons, h3]
      rfl
theorem setAll_re {T : Fx} (hx : T.ex = none) {m : Nat → Addr} {N : Nat} {H : Hp} : ∀ {is : List Nat} {ds : List D} {vs : List V} {e : Ev} {σ : L2.St}, RE T m N H e σ → RDs T.K m N H ds vs → RE T m N H ((is.zip ds).foldl (fun e p => e.set p.1 (some p.2)) e) (setAll σ (is.zip vs))
  | [], _, _, _, _, re, _ => by rw [List.zip_nil_left, List.zip_nil_left]; exact re
  | i :: is, _, _, _, _, re, .nil => by rw [List.zip_nil_right, List.zip_nil_right]; exact re
  | i :: is, _, _, _, _, re, .cons r rs => by
    rw [List.zip_cons_cons, List.zip_cons_cons, List.foldl_cons]
    exact setAll_re hx (re.set i (fun j a h => by rw [hx] at h; cases h) r) rs
theorem g_t {es : List Expr} {is : List Nat} {k : Nat} (hx : xs = none) (hc : X.calm = true) (hN : X.N.Nodup) (ho : Paired (nmOk X) es is) : PG X (.Tuple es k pos) (PG_ (FX X cv fn xs) is (gT is)) := by
  obtain ⟨h1, h2, h3⟩ := pgs_names hN es is ho
  refine pgImp (pg_tup hc h1 h2 h3) fun v σ H Q q => ?_
  obtain ⟨m, h, d, e, e1, rh, re, rd, eg, k⟩ := q
  cases d with
  | tup ds =>
    cases rd with
    | tup sq r =>
      change (if ds.length = is.length then _ else none) = some e1 at eg
      split at eg
      · rename_i hl
        cases eg
        exact ⟨_, _, rfl, sq, by rw [← r.length]; exact hl, by rw [← r.length]; exact hl, k _ (setAll_re hx re r) setAll_but⟩
      · cases eg
  | _ => cases eg
theorem s_lc {el it : Expr} {ifs : List Expr} {scope : Scope} {own : List (Str × Nat)} {fi : ID} {g : Tg} {is : List Nat} {fe : ED} {tt : TD} (hx : xs = none) (hc : X.calm = true) (hN : X.N.Nodup) (hi : PI X tg it (PI_ (FX X cv fn xs) W fi)) (ok : BlkOk X.N X.env.scope scope own)
    (hg : ∀ (s : Shared) (H : Hp) (C : Addr) (cl : List (Str × Addr)) (fp : List Addr), PG (X.blk s H scope (compEnvC scope cl C X.env) fp) tg (PG_ (FX X cv fn xs) is g))
    (ht : ∀ (s : Shared) (H : Hp) (C : Addr) (cl : List (Str × Addr)) (fp : List Addr), PTs (X.blk s H scope (compEnvC scope cl C X.env) fp) ifs (PT_ (FX X cv fn xs) (fun _ _ _ _ => False) tt))
    (he : ∀ (s : Shared) (H : Hp) (C : Addr) (cl : List (Str × Addr)) (fp : List Addr), PE (X.blk s H scope (compEnvC scope cl C X.env) fp) el (PE_ (FX X cv fn xs) (fun _ _ _ _ => False) fe))
    (hio : ∀ i ∈ is, i ∈ own.map (·.2)) (hs : ∀ x, foldedSetIterable it X.env x = pure x) {σ : L2.St} {H : Hp} {Q : VK} (q : PE_ (FX X cv fn xs) W (dLc fi g tt fe (own.map (·.2))) σ H Q) :
    tLc (PI_ (FX X cv fn xs) W fi) (PG_ (FX X cv fn xs) is g) (PT_ (FX X cv fn xs) (fun _ _ _ _ => False) tt) (PE_ (FX X cv fn xs) (fun _ _ _ _ => False) fe) (own.map (·.2)) σ H Q := by
  obtain ⟨m, e, h, rh, re, p⟩ := q
  refine ⟨m, e, h, rh, re, p.bind fun sq h1 m1 H1 J g1 rh1 wk p1 => ?_⟩
  intro D hD
  obtain ⟨m2, g2, rh2, rd2⟩ := rh1.newL (ds := []) (vs := []) hD .nil
  have eD : m2 h1.length = D := by
    cases rd2
    rfl
  have re2 : RE (FX X cv fn xs) m2 (h1 ++ [O.lst []]).length (upd H1 D (.lst [])) (Mn.wipe e (own.map (·.2))) (L2.wipe σ (own.map (·.2))) := (g2.re (g1.re re)).wipe hx _
  have p2 := p1.base g2
  generalize own.map (·.2) = vs at *
  refine ⟨fun i n H => n = sq.items.length - i ∧ i ≤ sq.items.length ∧ ∃ m h, RH (FX X cv fn xs) m h H ∧ Ge m2 (h1 ++ [O.lst []]) (upd H1 D (.lst [])) m h H ∧
    PO (FX X cv fn xs) W (rdR (FX X cv fn xs)) σ m h H (lcGo sq.src g tt fe (Mn.wipe e vs) h1.length (sq.items.drop i) h) Q, ⟨_, rfl, Nat.zero_le _, m2, _, rh2, Ge.refl, p2⟩, ?_⟩
  rintro i n H3 ⟨rfl, hi3, m3, h3, rh3, g3, p3⟩
  have g13 := g2.trans g3
  have lt1 : h1.length < h3.length := Nat.lt_of_lt_of_le (by rw [List.length_append]; exact Nat.lt_succ_self _) g3.le
  have e3 : m3 h1.length = D := (g3.eq _ (by rw [List.length_append]; exact Nat.lt_succ_self _)).trans eD
  have wk3 := wk m3 h3 H3 rh3 g13.eq g13.le g13.tk
  by_cases hlt : i < sq.items.length
  · right
    rw [List.drop_eq_getElem_cons hlt] at p3
    unfold lcGo at p3
    split at p3
    · rename_i hok
      obtain ⟨go, _, yl⟩ := wk3 hok
      refine ⟨go i hlt, fun H' => (fun n H => n = sq.items.length - (i + 1) ∧ i + 1 ≤ sq.items.length ∧ ∃ m h, RH (FX X cv fn xs) m h H ∧ Ge m2 (h1 ++ [O.lst []]) (upd H1 D (.lst [])) m h H ∧
        PO (FX X cv fn xs) W (rdR (FX X cv fn xs)) σ m h H (lcGo sq.src g tt fe (Mn.wipe e vs) h1.length (sq.items.drop (i + 1)) h) Q) (sq.items.length - (i + 1)) H', fun H' w => ⟨_, by omega, w⟩, fun x H4 y => ?_⟩
      obtain ⟨d, ed, g4, rh4, rd4⟩ := yl i x H4 hlt y
      rw [List.getElem?_eq_getElem hlt] at ed
      cases ed
      have p4 := p3.base g4
      split at p4
      · rename_i e1 eg
        refine ⟨m3, h3, _, _, e1, rh4, g4.re (g3.re re2), rd4, eg, fun σ' re' but => ⟨wipe_but but hio, ?_⟩⟩
        refine ⟨m3, e1, h3, rh4, re', ?_⟩
        cases qt : tt e1 h3 with
        | stuck => rw [qt] at p4; exact p4.elim
        | exc x h5 => rw [qt] at p4; exact p4.elim
        | ok k h5 =>
          rw [qt] at p4
          intro m5 H5 b g5 rh5 eb
          subst eb
          cases k with
          | false =>
            rw [if_neg Bool.false_ne_true]
            exact ⟨rfl, hlt, m5, h5, rh5, (g3.trans g4).trans g5, PO.base (r := lcGo sq.src g tt fe (Mn.wipe e vs) h1.length (sq.items.drop (i + 1)) h5) p4 g5⟩
          | true =>
            rw [if_pos rfl]
            refine ⟨m5, e1, h5, rh5, g5.re re', ?_⟩
            cases qe : fe e1 h5 with
            | stuck => simp only [qe] at p4; exact p4.elim
            | exc x h6 => simp only [qe] at p4; exact p4.elim
            | ok y h6 =>
              simp only [qe] at p4
              intro m6 H6 yv g6 rh6 ry
              split at p4
              · rename_i acc ea
                split at p4
                · rename_i hz
                  obtain ⟨hn, ws, q1, q2⟩ := rh6.mut ea
                  have e6 : m6 h1.length = D := (g6.eq _ (Nat.lt_of_lt_of_le lt1 g5.le)).trans ((g5.eq _ lt1).trans e3)
                  obtain ⟨g7, rh7⟩ := rh6.putL ea q1 (q2.snoc ry)
                  have g16 := (((g3.trans g4).trans g5).trans g6).trans g7
                  refine ⟨ws, by rw [← e6]; exact q1, by rw [sizeLine_eq, ← q2.length]; exact hz, rfl, hlt, m6, h6.set h1.length (.lst (acc ++ [y])), ?_, ?_, ?_⟩
                  · rw [← e6]; exact rh7
                  · rw [e6] at g16; exact g16
                  · rw [← e6]
                    exact PO.base (r := lcGo sq.src g tt fe (Mn.wipe e vs) h1.length (sq.items.drop (i + 1)) (h6.set h1.length (.lst (acc ++ [y])))) p4 ((g5.trans g6).trans g7)
                · exact p4.elim
              · exact p4.elim
      · exact p4.elim
    · exact p3.elim
  · have ei : i = sq.items.length := by omega
    subst ei
    left
    rw [List.drop_length] at p3
    unfold lcGo at p3
    split at p3
    · rename_i hok
      obtain ⟨_, st, _⟩ := wk3 hok
      refine ⟨st, ?_⟩
      have r := RD.ref (K := X.K) (m := m3) (H := H3) lt1
      rw [e3] at r
      exact p3.here rh3 r
    · exact p3.elim
end
end Mn
namespace Mn
open PySem L2
section
variable {X : Cx} {cv : Nat → Value} {fn : Nat → Str} {xs : Xs} {W : WX} {pos : Pos} {a b c tg : Expr} {fa fb fc : ED} {t u : TD} {st : Stmt} {rest : List Stmt} {f g : SD}
theorem s_nil : PSs X [] (PS_ (FX X cv fn xs) W sNx) := pssImp pss_nil fun D σ H q => by
  obtain ⟨m, e, h, rh, re, p⟩ := q
  exact p m H σ Ge.refl rh re
theorem s_cons (h1 : PS X st (PS_ (FX X cv fn xs) W f)) (h2 : PSs X rest (PS_ (FX X cv fn xs) W g)) : PSs X (st :: rest) (PS_ (FX X cv fn xs) W (sSq f g)) :=
  pssImp (pss_cons h1 h2) fun D σ H q => by
    obtain ⟨m, e, h, rh, re, p⟩ := q
    refine ⟨m, e, h, rh, re, ?_⟩
    unfold sSq at p
    cases q : f e h with
    | stuck => rw [q] at p; exact p
    | exc x e1 h1 => rw [q] at p; exact p
    | go k e1 h1 =>
      rw [q] at p
      cases k with
      | nx => exact fun m1 H1 σ1 g1 rh1 re1 => ⟨m1, e1, h1, rh1, re1, PSo.base (r := g e1 h1) p g1⟩
      | bk => exact p
      | ct => exact p
      | rt d => exact p
theorem s_one (h1 : PS X st (PS_ (FX X cv fn xs) W f)) : PSs X [st] (PS_ (FX X cv fn xs) W f) := pss_one h1
theorem s_pass : PS X (.Pass pos) (PS_ (FX X cv fn xs) W sNx) := psImp ps_pass fun D σ H q => by
  obtain ⟨m, e, h, rh, re, p⟩ := q
  exact p m H σ Ge.refl rh re
theorem s_brk : PS X (.Break pos) (PS_ (FX X cv fn xs) W sBk) := psImp ps_break fun D σ H q => by
  obtain ⟨m, e, h, rh, re, p⟩ := q
  exact p m H σ Ge.refl rh re
theorem s_cont : PS X (.Continue pos) (PS_ (FX X cv fn xs) W sCt) := psImp ps_continue fun D σ H q => by
  obtain ⟨m, e, h, rh, re, p⟩ := q
  exact p m H σ Ge.refl rh re
theorem s_ex (ha : PE X a (PE_ (FX X cv fn xs) W fa)) (hs : swapsWith a none pos.line X.env = pure false) : PS X (.Expr a pos) (PS_ (FX X cv fn xs) W (sEx fa)) :=
  psImp (ps_expr ha hs) fun D σ H q => by
    obtain ⟨m, e, h, rh, re, p⟩ := q
    exact ⟨m, e, h, rh, re, PO.toS re p fun d h1 m1 H1 v g1 rh1 _ p1 => p1 m1 H1 σ Ge.refl rh1 (g1.re re)⟩
theorem s_rt (ha : PE X a (PE_ (FX X cv fn xs) W fa)) : PS X (.Return (some a) pos) (PS_ (FX X cv fn xs) W (sRt fa)) :=
  psImp (ps_ret ha) fun D σ H q => by
    obtain ⟨m, e, h, rh, re, p⟩ := q
    exact ⟨m, e, h, rh, re, PO.toS re p fun d h1 m1 H1 v g1 rh1 r p1 => p1 m1 H1 v Ge.refl rh1 r⟩
theorem s_rtN : PS X (.Return none pos) (PS_ (FX X cv fn xs) W (sRt (dC .non))) :=
  psImp ps_retN fun D σ H q => by
    obtain ⟨m, e, h, rh, re, p⟩ := q
    exact p m H _ Ge.refl rh .non
theorem s_ifS {x y : List Stmt} (hc : PT X c (PT_ (FX X cv fn xs) W t)) (hx : PSs X x (PS_ (FX X cv fn xs) W f)) (hy : PSs X y (PS_ (FX X cv fn xs) W g)) : PS X (.If c x y pos) (PS_ (FX X cv fn xs) W (sIf t f g)) :=
  psImp (ps_if hc hx hy) fun D σ H q => by
    obtain ⟨m, e, h, rh, re, p⟩ := q
    refine ⟨m, e, h, rh, re, PO.toS re p fun k h1 m1 H1 v g1 rh1 r p1 => ?_⟩
    subst r
    cases k with
    | true => rw [if_pos rfl] at p1 ⊢; exact ⟨m1, e, h1, rh1, g1.re re, p1⟩
    | false => rw [if_neg Bool.false_ne_true] at p1 ⊢; exact ⟨m1, e, h1, rh1, g1.re re, p1⟩
def PGD_ (T : Fx) (W : WX) (g : GD) : TG := fun v σ H Q => ∃ m h d e, RH T m h H ∧ RE T m h.length H e σ ∧ RD T.K m h.length H d v ∧ PO T W (fun m N H e1 σ1 => RE T m N H e1 σ1) σ m h H (g d e h) Q
theorem g_of {is : List Nat} {k : Tg} (h : PG X tg (PG_ (FX X cv fn xs) is k)) : PG X tg (PGD_ (FX X cv fn xs) W (ofG k)) := pgImp h fun v σ H Q q => by
  obtain ⟨m, h, d, e, rh, re, rd, p⟩ := q
  unfold ofG at p
  split at p
  · rename_i e1 eg
    exact ⟨m, h, d, e, e1, rh, re, rd, eg, fun σ' re' _ => p.here rh re'⟩
  · exact p.elim
def rSet (T : Fx) : TSet := fun o i v H Q => ∃ (W : WX) (σ : L2.St) (m : Nat → Addr) (h : Hh) (d1 d2 d3 : D), RH T m h H ∧ RD T.K m h.length H d1 o ∧ RD T.K m h.length H d2 i ∧ RD T.K m h.length H d3 v ∧
  PO T W (fun _ _ _ (_ : Unit) (_ : Unit) => True) σ m h H (setD d1 d2 d3 h) fun _ H' => Q H'
theorem o_set : PSet X (rSet (FX X cv fn xs)) := by
  intro pins s σ0 H o i v ov iv u Q I ro ri rv hh
  obtain ⟨W, σ, m, h, d1, d2, d3, rh, r1, r2, r3, p⟩ := hh
  unfold setD at p
  split at p
  · cases r1
    cases r2
    split at p
    · rename_i e
      split at p
      · rename_i j ej
        obtain ⟨hn, vs, q1, q2⟩ := rh.mut e
        obtain ⟨g, rh'⟩ := rh.putL e q1 (q2.set j r3)
        exact set_list pins s σ0 H _ _ v ov iv u Q I ro ri rv ⟨_, _, _, j, rfl, rfl, q1, by rw [← q2.length]; exact ej, p m _ () g rh' trivial⟩
      · exact p.elim
    · exact p.elim
  · exact p.elim
theorem g_ix {o i : Expr} {fo fi : ED} (ho : PE X o (PE_ (FX X cv fn xs) W fo)) (hi : PE X i (PE_ (FX X cv fn xs) W fi)) (ha : ∀ v, assign (.Subscript o i pos) X.env v = (do
      let ov ← holding [v] (eval o X.env)
      let iv ← holding [v, ov] (eval i X.env)
      standAt pos
      holding [v, ov, iv] (setItem ov iv v)
      release [v, ov, iv] [])) : PG X (.Subscript o i pos) (PGD_ (FX X cv fn xs) W (gIx fo fi)) :=
  pgImp (pg_sub ho hi o_set ha) fun v σ H Q q => by
    obtain ⟨m, h, d, e, rh, re, rd, p⟩ := q
    refine ⟨m, e, h, rh, re, p.bind fun x h1 m1 H1 xv g1 rh1 rx p1 => ⟨m1, e, h1, rh1, g1.re re, p1.bind fun y h2 m2 H2 yv g2 rh2 ry p2 => ?_⟩⟩
    refine ⟨W, σ, m2, h2, x, y, d, rh2, g2.rd rx, ry, (g1.trans g2).rd rd, p2.bind fun _ h3 m3 H3 _ g3 rh3 _ p3 => ?_⟩
    exact p3.here rh3 (((g1.trans g2).trans g3).re re)
theorem as_rd {D : Ends} {σ : L2.St} {H : Hp} {k : GD} (q : PS_ (FX X cv fn xs) W (sAs fa k) D σ H) : PE_ (FX X cv fn xs) W fa σ H fun x H1 => PGD_ (FX X cv fn xs) W k x σ H1 D.nx := by
  obtain ⟨m, e, h, rh, re, p⟩ := q
  refine ⟨m, e, h, rh, re, PO.toS re p fun d h1 m1 H1 v g1 rh1 r p1 => ⟨m1, h1, d, e, rh1, g1.re re, r, PO.toS (g1.re re) p1 fun e1 h2 m2 H2 σ2 g2 rh2 re2 p2 => ?_⟩⟩
  exact p2 m2 H2 σ2 Ge.refl rh2 re2
theorem s_as {k : GD} (ha : PE X a (PE_ (FX X cv fn xs) W fa)) (hg : PG X tg (PGD_ (FX X cv fn xs) W k)) (hs : swapsWithSole [tg] a pos.line X.env = pure false) (hw : swappedStores [tg] a X.env = pure none)
    (h1 : (assignEach [tg] X.env).map (·.2) = [assign tg X.env]) : PS X (.Assign [tg] a pos) (PS_ (FX X cv fn xs) W (sAs fa k)) :=
  psImp (ps_asg ha hg hs hw h1) fun D σ H q => as_rd q
theorem s_asLc {el it : Expr} {ifs : List Expr} {scope : Scope} {own : List (Str × Nat)} {fi : ID} {k : Tg} {is : List Nat} {fe : ED} {tt : TD} {i : Nat} {y : Str} {py spos : Pos} (hx : xs = none) (hc : X.calm = true) (hN : X.N.Nodup) (hy : X.N[i]? = some y) (hyl : X.env.scope.names.lookup y = some .local)
    (hsw : swapsWith (.ListComp el [⟨tg, it, ifs, 0⟩] scope pos) (some (.Name y py)) spos.line X.env = pure true) (hi : PI X tg it (PI_ (FX X cv fn xs) W fi)) (ok : BlkOk X.N X.env.scope scope own)
    (hg : ∀ (s : Shared) (H : Hp) (C : Addr) (cl : List (Str × Addr)) (fp : List Addr), PG (X.blk s H scope (compEnvC scope cl C X.env) fp) tg (PG_ (FX X cv fn xs) is k))
    (ht : ∀ (s : Shared) (H : Hp) (C : Addr) (cl : List (Str × Addr)) (fp : List Addr), PTs (X.blk s H scope (compEnvC scope cl C X.env) fp) ifs (PT_ (FX X cv fn xs) (fun _ _ _ _ => False) tt))
    (he : ∀ (s : Shared) (H : Hp) (C : Addr) (cl : List (Str × Addr)) (fp : List Addr), PE (X.blk s H scope (compEnvC scope cl C X.env) fp) el (PE_ (FX X cv fn xs) (fun _ _ _ _ => False) fe))
    (hio : ∀ i ∈ is, i ∈ own.map (·.2)) (hs : ∀ x, foldedSetIterable it X.env x = pure x) :
    PS X (.Assign [.Name y py] (.ListComp el [⟨tg, it, ifs, 0⟩] scope pos) spos) (PS_ (FX X cv fn xs) W (sAs (dLc fi k tt fe (own.map (·.2))) (ofG (gN i)))) :=
  psImp (ps_setLc hc hN hy hyl hsw hi ok hg ht he hs) fun D σ H q => by
    have q1 := as_rd q
    obtain ⟨m, e, h, rh, re, p⟩ := q1
    refine s_lc hx hc hN hi ok hg ht he hio hs (Q := fun x H1 => gName i x σ H1 D.nx) ⟨m, e, h, rh, re, ?_⟩
    have w : ∀ {r : R Mn.D}, PO (FX X cv fn xs) W (rdR (FX X cv fn xs)) σ m h H r (fun x H1 => PGD_ (FX X cv fn xs) W (ofG (gN i)) x σ H1 D.nx) → PO (FX X cv fn xs) W (rdR (FX X cv fn xs)) σ m h H r (fun x H1 => gName i x σ H1 D.nx) := fun {r} p => by
      cases r with
      | stuck => exact p
      | exc x h1 => exact p
      | ok d h1 =>
        intro m1 H1 v g1 rh1 r1
        obtain ⟨m2, h2, d2, e2, rh2, re2, rd2, p2⟩ := p m1 H1 v g1 rh1 r1
        exact p2 m2 H1 _ Ge.refl rh2 (re2.set i (fun j a h => by rw [show xs = some (j, a) from h] at hx; cases hx) rd2)
    exact w p
theorem for_imp {fi : ID} {k : Tg} {is : List Nat} {D : Ends} {σ : L2.St} {H : Hp} (q : PS_ (FX X cv fn xs) W (sFor fi k f) D σ H) : tFor (PI_ (FX X cv fn xs) W fi) (PG_ (FX X cv fn xs) is k) (PS_ (FX X cv fn xs) W f) D σ H := by
  obtain ⟨m, e, h, rh, re, p⟩ := q
  refine ⟨m, e, h, rh, re, PO.toS re p fun sq h1 m1 H1 J g1 rh1 wk p1 => ?_⟩
  refine ⟨fun i n σ H => n = sq.items.length - i ∧ i ≤ sq.items.length ∧ ∃ m e h, RH (FX X cv fn xs) m h H ∧ RE (FX X cv fn xs) m h.length H e σ ∧ Ge m1 h1 H1 m h H ∧
    PSo (FX X cv fn xs) W D m h H (forGo sq.src k f (sq.items.drop i) e h), ⟨_, rfl, Nat.zero_le _, m1, e, h1, rh1, g1.re re, Ge.refl, p1⟩, ?_⟩
  rintro i n σ3 H3 ⟨rfl, hi3, m3, e3, h3, rh3, re3, g3, p3⟩
  have wk3 := wk m3 h3 H3 rh3 g3.eq g3.le g3.tk
  by_cases hlt : i < sq.items.length
  · right
    rw [List.drop_eq_getElem_cons hlt] at p3
    unfold forGo at p3
    split at p3
    · rename_i hok
      obtain ⟨go, _, yl⟩ := wk3 hok
      refine ⟨go i hlt, fun σ' H' => (fun n σ H => n = sq.items.length - (i + 1) ∧ i + 1 ≤ sq.items.length ∧ ∃ m e h, RH (FX X cv fn xs) m h H ∧ RE (FX X cv fn xs) m h.length H e σ ∧ Ge m1 h1 H1 m h H ∧
        PSo (FX X cv fn xs) W D m h H (forGo sq.src k f (sq.items.drop (i + 1)) e h)) (sq.items.length - (i + 1)) σ' H', fun σ' H' w => ⟨_, by omega, w⟩, fun x H4 y => ?_⟩
      obtain ⟨d, ed, g4, rh4, rd4⟩ := yl i x H4 hlt y
      rw [List.getElem?_eq_getElem hlt] at ed
      cases ed
      have p4 := p3.base g4
      split at p4
      · rename_i e4 eg
        refine ⟨m3, h3, _, _, e4, rh4, g4.re re3, rd4, eg, fun σ' re' _ => ⟨m3, e4, h3, rh4, re', ?_⟩⟩
        cases qf : f e4 h3 with
        | stuck => rw [qf] at p4; exact p4
        | exc x e5 h5 => rw [qf] at p4; exact p4
        | go fl e5 h5 =>
          rw [qf] at p4
          cases fl with
          | nx => exact fun m5 H5 σ5 g5 rh5 re5 => ⟨rfl, hlt, m5, e5, h5, rh5, re5, (g3.trans g4).trans g5, PSo.base (r := forGo sq.src k f (sq.items.drop (i + 1)) e5 h5) p4 g5⟩
          | ct => exact fun m5 H5 σ5 g5 rh5 re5 => ⟨rfl, hlt, m5, e5, h5, rh5, re5, (g3.trans g4).trans g5, PSo.base (r := forGo sq.src k f (sq.items.drop (i + 1)) e5 h5) p4 g5⟩
          | bk => exact p4
          | rt d => exact p4
      · exact p4.elim
    · exact p3.elim
  · have ei : i = sq.items.length := by omega
    subst ei
    left
    rw [List.drop_length] at p3
    unfold forGo at p3
    split at p3
    · rename_i hok
      obtain ⟨_, st, _⟩ := wk3 hok
      exact ⟨st, p3 m3 H3 σ3 Ge.refl rh3 re3⟩
    · exact p3.elim
theorem s_for {it : Expr} {body : List Stmt} {fi : ID} {k : Tg} {is : List Nat} (hp : PassesOwn (model X.prog X.w) X.A X.env X.xe) (hc : X.calm = true) (hi : PI X tg it (PI_ (FX X cv fn xs) W fi)) (hg : PG X tg (PG_ (FX X cv fn xs) is k)) (hb : PSs X body (PS_ (FX X cv fn xs) W f))
    (hs : ∀ x, foldedSetIterable it X.env x = pure x) : PS X (.For tg it body [] pos) (PS_ (FX X cv fn xs) W (sFor fi k f)) :=
  psImp (ps_for hp hc hi hg hb hs) fun D σ H q => for_imp q
theorem s_while {body : List Stmt} (n : Nat) (hp : PassesOwn (model X.prog X.w) X.A X.env X.xe) (hc : PT X c (PT_ (FX X cv fn xs) W t)) (hb : PSs X body (PS_ (FX X cv fn xs) W f)) : PS X (.While c body [] pos) (PS_ (FX X cv fn xs) W (whGo t f n)) :=
  psImp (ps_while hp hc hb) fun D σ H q => by
    refine ⟨fun n σ H => PS_ (FX X cv fn xs) W (whGo t f n) D σ H, ⟨n, q⟩, ?_⟩
    intro n σ H q
    obtain ⟨m, e, h, rh, re, p⟩ := q
    cases n with
    | zero => exact p.elim
    | succ n =>
      refine ⟨m, e, h, rh, re, PO.toS re p fun k h1 m1 H1 v g1 rh1 r p1 => ?_⟩
      subst r
      cases k with
      | false => rw [if_neg Bool.false_ne_true] at p1 ⊢; exact p1 m1 H1 σ Ge.refl rh1 (g1.re re)
      | true =>
        rw [if_pos rfl] at p1 ⊢
        refine ⟨fun σ' H' => PS_ (FX X cv fn xs) W (whGo t f n) D σ' H', fun σ' H' w => ⟨n, Nat.lt_succ_self _, w⟩, m1, e, h1, rh1, g1.re re, ?_⟩
        cases qf : f e h1 with
        | stuck => simp only [qf] at p1; exact p1
        | exc x e5 h5 => simp only [qf] at p1; exact p1
        | go fl e5 h5 =>
          simp only [qf] at p1
          cases fl with
          | nx => exact fun m5 H5 σ5 g5 rh5 re5 => ⟨m5, e5, h5, rh5, re5, PSo.base (r := whGo t f n e5 h5) p1 g5⟩
          | ct => exact fun m5 H5 σ5 g5 rh5 re5 => ⟨m5, e5, h5, rh5, re5, PSo.base (r := whGo t f n e5 h5) p1 g5⟩
          | bk => exact p1
          | rt d => exact p1
theorem pmk0 {C : Addr} {bmB : List Value} {B newId initId : String} {x : Str} {p : Pos} (F : ExcBaseFacts B newId initId bmB) (q : PySem.W.excIn X.K C bmB newId = true) (gC : X.mg x = some (.ref C)) (kC : PySem.W.keepIn X.K (.ref C) = true) (r : Raises X (.ref C)) (hg : Gl X x)
    (hdb : (x == ("__debug__" : Str)) = false) : L2N.PMk X (.Call (.Name x p) [] [] pos) (fun _ H Q => Q (.ref C) none H) := by
  intro pins s σ H Q I h
  refine wpAny_Call_Name_kw (ld_glob I hg gC ?_ hdb)
  refine PySem.W.callWith_K0 I.kIn kC ?_
  obtain ⟨bm, N, nm, qn, bs, hdct, sn, sub, ab, col, dd, k0, k1, k2, k3, k5, mN, hC, hN, hni, T⟩ := exc_obj I.kIn q
  obtain ⟨hp, gg, dr, tk, os⟩ := s
  exact wpAny_call_exc_subT F T hC hN hni (fun h' e hm => L2N.mk_of I hm r h (I.hok.gone hm.new)) (by rw [List.append_nil, sizeLine_eq]; exact Nat.zero_le _)
theorem s_raise {cl : Nat} {C : Addr} (hx : xs = none) (hc : X.calm = true) (tk : L2N.Takes X W) (ecv : cv cl = .ref C) (hp : L2N.PMk X a (fun _ H Q => Q (.ref C) none H)) : PS X (.Raise (some a) none pos) (PS_ (FX X cv fn xs) W (sRaise cl)) :=
  psImp (L2N.ps_raise hc tk hp) fun D σ H q => by
    obtain ⟨m, e, h, rh, re, p⟩ := q
    exact p m H σ (.ref C) none Ge.refl rh re ⟨ecv.symm, fun _ => rfl, fun z => absurd rfl z⟩
theorem s_try {body suite : List Stmt} {b₀ : Stmt} {n : Str} {i : Nat} {x : Str} {np pos' : Pos} {sub : Nat → Nat → Option Bool} {hd : Nat} {fs : Xc → SD} (hx : xs = none) (hs : X.stack = X.env :: X.outer) (hf : X.env.frame = some X.env.locals) (hN : X.N.Nodup) (hi : X.N[i]? = some n) (hln : X.env.kindOf n = some .local)
    (hc : Names X x (cv hd)) (tk : L2N.Takes X W) (hsub : ∀ c1 c2 b, sub c1 c2 = some b → PySem.W.exmOne X.K (cv c1) (cv c2) = some b)
    (hb : ∀ (W : WX) (pn : List (Addr × Obj)) (xe : Value → Shared → Prop), L2N.Takes (X.tr pn xe) W → PassesOwn (model X.prog X.w) X.A X.env xe → PSs (X.tr pn xe) body (PS_ (FX X cv fn xs) W f))
    (hsu : ∀ (a : Addr) (oe : Obj) (x : Xc) (d : Option Addr) (pn : List (Addr × Obj)), L2N.Zn (cv x.cls) d oe → (∃ vs, oe.data = .fields vs) → (x.fs = [] → d = none) → PSs (X.suite a ((a, oe) :: pn)) (b₀ :: suite) (PS_ (FX X cv fn (some (i, a, x, d))) (fun _ _ _ _ => False) (fs x))) :
    PS X (.Try body [.ExceptHandler (some (.Name x np)) (some n) (b₀ :: suite) pos'] [] [] pos) (PS_ (FX X cv fn xs) W (sTry sub f ⟨hd, some i, fs⟩)) := by
  subst hx
  refine psImp (L2N.ps_try_as (ts := fun a cls d D σ H => ∃ y : Xc, cls = cv y.cls ∧ (y.fs = [] → d = none) ∧ PS_ (FX X cv fn (some (i, a, y, d))) (fun _ _ _ _ => False) (fs y) D σ H) hs hf hN hi hln hc tk hb
    fun a oe cls d pn hz hfl => ⟨fun pins s σ H D I q => ?_⟩) fun D σ H q => ?_
  · obtain ⟨y, e1, e2, q⟩ := q
    subst e1
    exact (hsu a oe y d pn hz hfl e2).run pins s σ H D I q
  · obtain ⟨m, e, h, rh, re, p⟩ := q
    refine ⟨m, e, h, rh, re, ?_⟩
    unfold sTry at p
    cases qf : f e h with
    | stuck => rw [qf] at p; exact p
    | go fl e1 h1 => rw [qf] at p; exact p.flow
    | exc y e1 h1 =>
      rw [qf] at p
      intro m1 H1 σ1 cls dd g1 rh1 re1 rx
      simp only at p
      cases qs : sub y.cls hd with
      | none => rw [qs] at p; exact p.elim
      | some k =>
        rw [qs] at p
        obtain ⟨ec, rx'⟩ := rx
        refine ⟨k, by rw [ec]; exact hsub _ _ _ qs, fun ek ad had => ?_, fun ek => ?_⟩
        · subst ek
          simp only at p
          by_cases hok : slotOk e1 (some i) = true
          case neg => rw [if_neg hok] at p; exact p.elim
          rw [if_pos hok] at p
          have hi' : i < σ1.length := by
            rw [← re1.len]
            exact of_decide_eq_true hok
          refine ⟨y, ec, rx'.1, m1, e1.set i none, h1, rh1.ex, ⟨?_, fun j d hj => ?_, fun j b y' d' hj => ?_⟩, ?_⟩
          · rw [List.length_set, List.length_set]; exact re1.len
          · by_cases hij : i = j
            · subst hij
              by_cases hl : i < e1.length
              · rw [List.getElem?_set_self hl] at hj; cases hj
              · rw [List.getElem?_eq_none (by rw [List.length_set]; omega)] at hj; cases hj
            · rw [List.getElem?_set_ne hij] at hj ⊢
              exact re1.at_ j d hj
          · cases hj
            exact ⟨List.getElem?_set_self hi', rx'⟩
          · have p1 := PSo.base p g1
            cases qg : fs y (e1.set i none) h1 with
            | stuck => simp only [clr, qg] at p1; exact p1.elim
            | exc x e2 h2 => simp only [clr, qg] at p1; exact p1.elim
            | go fl e2 h2 =>
              simp only [clr, qg] at p1
              have back : ∀ {m' : Nat → Addr} {N : Nat} {H' : Hp} {σ' : L2.St}, RE (FX X cv fn (some (i, ad, y, dd))) m' N H' e2 σ' → RE (FX X cv fn none) m' N H' (e2.set i none) (σ'.set i none) := fun {m' N H' σ'} r =>
                RE.drop1 (T := FX X cv fn none) ⟨r.len, r.at_, fun _ _ _ _ z => by cases z⟩ i (fun _ _ z => by cases z) none
              cases fl with
              | nx => exact fun m2 H2 σ2 g2 rh2 re2 => p1 m2 H2 _ g2 rh2.ex (back re2)
              | bk => exact fun m2 H2 σ2 g2 rh2 re2 => p1 m2 H2 _ g2 rh2.ex (back re2)
              | ct => exact fun m2 H2 σ2 g2 rh2 re2 => p1 m2 H2 _ g2 rh2.ex (back re2)
              | rt d => exact fun m2 H2 v2 g2 rh2 re2 => p1 m2 H2 _ g2 rh2.ex re2
        · subst ek
          exact p m1 H1 σ1 cls dd g1 rh1 re1 ⟨ec, rx'⟩
end
end Mn
namespace Mn
open PySem PySem.Spec PyProof.Rows
section
variable {pr : Program} {wd : World} {A0 : Around} {s0 : Shared} {Rz : Result → Shared → Prop}
abbrev RevIt (items : Array Value) : Nat → Value → Prop := fun i v => items[items.size - 1 - i]? = some v
theorem ext_rev {S J l : Addr} {items : Array Value} {c0 : Nat} (hh : A0.handled = none) (oS : s0.heap.get? S = some { cls := .type "list", data := .seq #[] c0 }) (oJ : s0.heap.IsRevIter J l ((items.size : Int) - 1))
    (ol : s0.heap.IsList l items) (n1 : l ≠ J) (n2 : S ≠ J) (n3 : S ≠ l) (hz : items.size ≤ sizeLine)
    (k : ∀ (h' : Heap) (t' : Nat) (acc : Array Value) (c' : Nat), (∀ b o, b ≠ S → b ≠ J → s0.heap.get? b = some o → h'.get? b = some o) → h'.get? S = some { cls := .type "list", dict := none, data := .seq acc c', slots := #[] } → ItemsOf (RevIt items) acc items.size →
      Rz (.ok (.ret .none)) { s0 with heap := h', toks := t' }) :
    wpAny (model pr wd) A0.in1 (Builtin.List.listExtendWith (.ref S) (.ref J) .none)
      (fun fin s' => match fin with | .done f => Rz (.ok f) s' | .again c' => c'.quiet = true ∧ codeAny (model pr wd) A0 c' Rz s') (fun e s' => Rz (.error e) s') s0 := by
  have Wk := (Walks.listRev (prog := pr) (w := wd) (A := A0.in1) hh J l n1 items).toS
  have nf : S ∉ [J, l] := by
    simp only [List.mem_cons, List.not_mem_nil, or_false, not_or]
    exact ⟨n2, n3⟩
  have tJ : s0.TypeIs (.ref J) "list_reverseiterator" := Heap.IsRevIter.typeIs oJ
  have same : Builtin.List.listSameRef (.ref S) (.ref J) = false := by simp [Builtin.List.listSameRef, n2]
  have ez : ((items.size : Nat) : Int) - 1 - ((0 : Nat) : Int) = (items.size : Int) - 1 := by omega
  unfold Builtin.List.listExtendWith
  refine wpAny_bind (wpAny_typeOf tJ ?_)
  rw [if_neg (by rw [same]; decide)]
  refine wpAny_bind (wpAny_pyIter_revIter oJ ?_)
  refine wpAny_bind (wpAny_holding ?_)
  unfold Builtin.List.listLengthHint
  refine wpAny_bind (wpAny_specialOf tJ RT.nolen_lri ?_)
  show wpAny _ A0.in1 (specialOf (Value.ref J) (Str.ofString "__length_hint__") >>= _) _ _ _
  refine wpAny_bind (wpAny_specialOf tJ RT.hint_lri ?_)
  generalize hid : ("list_reverseiterator.__length_hint__" : String) = i0
  wp_delta
  rw [show splitId i0 = some ("list_reverseiterator", "__length_hint__") from by subst hid; decide +kernel]
  subst hid
  refine wpAny_bind (wpAny_isInstance (b := true) tJ (by rw [isSubtype_type]; kernel_rfl) ?_)
  refine wpAny_pure ?_
  rw [if_neg (by decide)]
  refine wpAny_pure ⟨plainId_quiet F.plain_extend_loop _, ?_⟩
  refine codeAny_extend_loopS Wk hz S nf .none items.size 0 _ _ _ rfl (Nat.zero_le _) ⟨Nat.zero_le _, by rw [ez]; exact oJ, ol⟩ oS (ItemsOf.nil _) fun s' acc c' mv oS' it => ?_
  rw [Moved.eq_with mv]
  refine k _ _ acc c' (fun b o b1 b2 e => mv.heap b o (fun z => ?_) e) oS' it
  rcases List.mem_cons.mp z with z | z
  · exact b1 z
  · exact b2 (List.mem_singleton.mp z)
theorem call_list_revIt {J l : Addr} {items : Array Value} {Qv : Value → Shared → Prop} {Ev : Value → Shared → Prop} (hh : A0.handled = none) (oJ : s0.heap.IsRevIter J l ((items.size : Int) - 1)) (ol : s0.heap.IsList l items) (n1 : l ≠ J) (hz : items.size ≤ sizeLine)
    (k : ∀ (h' : Heap) (t' : Nat) (acc : Array Value) (c' : Nat), (∀ b o, b ≠ J → s0.heap.get? b = some o → h'.get? b = some o) → h'.get? s0.heap.objs.size = some { cls := .type "list", dict := none, data := .seq acc c', slots := #[] } → ItemsOf (RevIt items) acc items.size →
      Qv (.ref s0.heap.objs.size) { s0 with heap := h', toks := t' }) : wpAny (model pr wd) A0 (call (.type "list") [.ref J]) Qv Ev s0 := by
  obtain ⟨uJ, gJ, _⟩ := id oJ
  obtain ⟨ul, gl, _⟩ := id ol
  have m2 : s0.heap.objs.size ≠ J := Nat.ne_of_gt (Heap.lt_size gJ)
  have m3 : s0.heap.objs.size ≠ l := Nat.ne_of_gt (Heap.lt_size gl)
  refine callType_codes (Q₁ := fun ob sb => ob = .ref s0.heap.objs.size ∧ sb = { s0 with heap := s0.heap.push { cls := .type "list", data := .seq #[] } }) F.called_list (F.typeCall_list_1 _) F.entry_list_init (code_list_new _ ⟨rfl, rfl⟩) fun ob sb e12 => ?_
  obtain ⟨e1, e2⟩ := e12
  subst e1; subst e2
  have g0 : (s0.heap.push { cls := .type "list", data := .seq #[] }).get? s0.heap.objs.size = some { cls := .type "list", data := .seq #[] } := Heap.get?_push_size _ rfl
  refine ⟨⟨_, g0, rfl⟩, F.args_list_init_2 _ _, ?_⟩
  show wpAny _ _ (Builtin.List.listItems (.ref s0.heap.objs.size) >>= fun old => Builtin.List.listUpdate (.ref s0.heap.objs.size) (fun _ => #[]) >>= fun _ => letGo old.toList.reverse >>= fun _ => Builtin.List.listExtendWith (.ref s0.heap.objs.size) (.ref J) .none) _ _ _
  refine wpAny_bind ?_
  unfold Builtin.List.listItems
  refine wpAny_bind (wpAny_seqItems g0 rfl (wpAny_pure ?_))
  refine wpAny_bind ?_
  show wpAny _ _ (updateSeq s0.heap.objs.size (fun _ => #[])) _ _ _
  refine wpAny_updateSeq g0 rfl ?_
  have g1 := Heap.get?_update_self (Obj.mapSeq (fun _ => (#[] : Array Value))) g0 rfl
  have far : ∀ b o, b ≠ s0.heap.objs.size → s0.heap.get? b = some o → ((s0.heap.push { cls := .type "list", data := .seq #[] }).update s0.heap.objs.size (Obj.mapSeq (fun _ => (#[] : Array Value)))).get? b = some o :=
    fun b o hb e => (Heap.get?_update_other _ _ (Ne.symm hb)).trans (Heap.get?_push_of_some _ e)
  refine wpAny_bind (wpAny_letGo ?_)
  refine ext_rev (A0 := A0.in1) hh g1 (oJ.at fun o e => far J o (Ne.symm m2) e) (ol.at fun o e => far l o (Ne.symm m3) e) n1 m2 m3 hz fun h' t' acc c' kp gS it => ?_
  exact ⟨rfl, k h' t' acc c' (fun b o b1 e => kp b o (fun z => by rw [z] at e; exact absurd (Heap.lt_size e) (Nat.lt_irrefl _)) b1 (far b o (fun z => by rw [z] at e; exact absurd (Heap.lt_size e) (Nat.lt_irrefl _)) e)) gS it⟩
end
open L2
theorem vals_back {ys : List V} {us : List Value} (r : Vals ys us) {acc : Array Value} (it : ItemsOf (RevIt us.toArray) acc us.toArray.size) : Vals ys.reverse acc.toList := RT.vals_rev r it
def tLRev (K : PySem.W.Frag) (te : TE) : TE := fun σ H Q => te σ H fun v H1 => ∃ (a : Addr) (ys : List V), v = .ref a ∧ SqL K H1 a ys ∧ ∀ q, H1 q = none → Q (.ref q) (upd H1 q (.lst ys.reverse))
theorem pe_lRev {X : Cx} {e : Expr} {te : TE} {p p2 pos pos2 : Pos} (hc : X.calm = true) (hg : Gl X "list") (hm : X.mg "list" = none) (hg2 : Gl X "reversed") (hm2 : X.mg "reversed" = none) (he : PE X e te)
    (hs : starEach [e] X.env = (false, eval e X.env) :: starEach [] X.env) :
    PE X (.Call (.Name "list" p) [.Call (.Name "reversed" p2) [e] [] pos2] [] pos) (tLRev X.K te) := by
  have hs2 : starEach [.Call (.Name "reversed" p2) [e] [] pos2] X.env = (false, eval (.Call (.Name "reversed" p2) [e] [] pos2) X.env) :: starEach [] X.env := rfl
  constructor
  intro pins s σ H Q I h
  refine Call_ (ld_blt I hg hm boot_list (PyProof.Rows.callWith_type1 (args_cons (Call_ (ld_blt I hg2 hm2 PyProof.Rows.boot_reversed (PyProof.Rows.callWith_type1 (args_cons (thn (he.run pins s σ H _ I h) fun u s1 ⟨v, H1, I1, r1, z⟩ => args_nil ?_) hs) hs rfl))) hs2) hs2 rfl))
  obtain ⟨a, ys, ev, sq, z⟩ := z
  subst ev
  cases r1
  obtain ⟨us, rv, pl, hz⟩ := I1.list sq
  have ol := pl.isList
  obtain ⟨oa, ga, _⟩ := id ol
  have hn : us.toArray.size ≤ sizeLine := by rw [List.size_toArray, ← rv.length]; exact hz
  refine call_reversed_list ol (args_nil ?_)
  have na : a ≠ s1.heap.objs.size := Nat.ne_of_lt (Heap.lt_size ga)
  refine call_list_revIt (s0 := { s1 with heap := s1.heap.push (revObj a ((us.toArray.size : Int) - 1)) }) (I1.ok.hd hc) ⟨_, Heap.get?_push_size _ rfl, rfl, rfl⟩ (ol.push _) na hn fun h' t' acc c' kp gS it => ?_
  have kp' : ∀ b o, s1.heap.get? b = some o → h'.get? b = some o := fun b o eo => kp b o (Nat.ne_of_lt (Heap.lt_size eo)) (Heap.get?_push_of_some _ eo)
  have sz : s1.heap.objs.size ≤ (s1.heap.push (revObj a ((us.toArray.size : Int) - 1))).objs.size := by rw [Heap.size_push]; omega
  refine ⟨.ref _, _, I1.laid (t' := t') kp' sz (o := .lst ys.reverse) ⟨by rw [List.length_reverse]; exact hz, acc.toList, c', vals_back rv it, ?_⟩, rfl, z _ (I1.hok.fresh sz)⟩
  rw [Array.toArray_toList]
  exact gS
end Mn
namespace Mn
open PySem L2
theorem RDs.strs {K : PySem.W.Frag} {m : Nat → Addr} {N : Nat} {H : Hp} : ∀ l : List Str, RDs K m N H (l.map .str) (l.map .str)
  | [] => .nil
  | s :: l => .cons (.str s) (RDs.strs l)
theorem RDs.intsD {K : PySem.W.Frag} {m : Nat → Addr} {N : Nat} {H : Hp} : ∀ l : List Int, RDs K m N H (l.map .int) (l.map .int)
  | [] => .nil
  | s :: l => .cons (.int s) (RDs.intsD l)
theorem RDs.erase {K : PySem.W.Frag} {m : Nat → Addr} {N : Nat} {H : Hp} : ∀ {ds : List D} {vs : List V} (j : Nat), RDs K m N H ds vs → RDs K m N H (ds.eraseIdx j) (vs.eraseIdx j)
  | _, _, _, .nil => .nil
  | _, _, 0, .cons _ r => r
  | _, _, j + 1, .cons a r => .cons a (RDs.erase j r)
theorem RDs.cut {K : PySem.W.Frag} {m : Nat → Addr} {N : Nat} {H : Hp} {ds : List D} {vs : List V} (lo hi : Option Int) (r : RDs K m N H ds vs) : RDs K m N H (cutD ds lo hi) (cutV vs lo hi) := by
  unfold cutD cutV
  rw [r.length]
  exact (r.drop _).take _
theorem strsOf_rd {K : PySem.W.Frag} {m : Nat → Addr} {N : Nat} {H : Hp} : ∀ {ds : List D} {vs : List V} {ys : List Str}, RDs K m N H ds vs → strsOf ds = some ys → vs = ys.map .str
  | _, _, ys, .nil, e => by cases e; rfl
  | _, _, ys, .cons (d := d) a r, e => by
    cases a <;> first | (cases e; done) | skip
    rename_i s
    change (strsOf _).map _ = _ at e
    cases q : strsOf (_ : List D) with
    | none => rw [q] at e; cases e
    | some zs => rw [q] at e; cases e; rw [strsOf_rd r q]; rfl
section
variable {X : Cx} {cv : Nat → Value} {fn : Nat → Str} {xs : Xs} {W : WX} {pos : Pos} {a b c : Expr} {fa fb fc : ED}
def r3 (T : Fx) (g : D → Option Int → Option Int → Hh → R D) : V → Option Int → Option Int → Hp → VK → Prop := fun x lo hi H Q => ∃ (W : WX) (σ : L2.St) (m : Nat → Addr) (h : Hh) (d : D), RH T m h H ∧ RD T.K m h.length H d x ∧ PO T W (rdR T) σ m h H (g d lo hi h) Q
theorem o_sl : SlR X (r3 (FX X cv fn xs) slD) := by
  intro pins s σ0 H x v vl vu lo hi sl Q I rx hs pl pu hh
  obtain ⟨W, σ, m, h, d, rh, rd, p⟩ := hh
  unfold slD at p
  split at p
  · cases rd
    split at p
    · rename_i e
      obtain ⟨_, vs, sq, q⟩ := rh.lst e
      exact sl_list pins s σ0 H _ v vl vu lo hi sl Q I rx hs pl pu ⟨_, _, rfl, sq, p.new rh (q.cut lo hi)⟩
    · exact p.elim
  · cases rd with
    | tup sq q =>
      refine sl_tupA pins s σ0 H _ v vl vu lo hi sl Q I rx hs pl pu ⟨_, _, rfl, sq, fun z => ?_, fun _ => p.newT rh (q.cut lo hi)⟩
      rename_i ds aa vs
      have e : cutD ds lo hi = ds := by
        unfold cutD
        rw [q.length, z.1, z.2, List.drop_zero, ← q.length, Nat.sub_zero, List.take_length]
      rw [e] at p
      exact p.here rh (.tup sq q)
  · cases rd
    split at p
    · rename_i hz
      exact sl_str pins s σ0 H _ v vl vu lo hi sl Q I rx hs pl pu ⟨_, rfl, by rw [sizeLine_eq]; exact hz, p.here rh (.str _)⟩
    · exact p.elim
  · exact p.elim
def OO_ (T : Fx) (W : WX) (f : OD) : TO := fun σ H Q => ∃ m e h, RH T m h H ∧ RE T m h.length H e σ ∧ PO T W (fun _ _ _ d v => d = v) σ m h H (f e h) Q
theorem poImp {e : Option Expr} {t t' : TO} (h : L2.PO X e t) (w : ∀ σ H Q, t' σ H Q → t σ H Q) : L2.PO X e t' := ⟨fun pins s σ H Q I q => h.run pins s σ H Q I (w σ H Q q)⟩
theorem s_oN : L2.PO X none (OO_ (FX X cv fn xs) W oN) := poImp po_none fun σ H Q q => by
  obtain ⟨m, e, h, rh, re, p⟩ := q
  exact p.here rh rfl
theorem s_oS (ha : PE X a (PE_ (FX X cv fn xs) W fa)) : L2.PO X (some a) (OO_ (FX X cv fn xs) W (oS fa)) := poImp (po_some ha) fun σ H Q q => by
  obtain ⟨m, e, h, rh, re, p⟩ := q
  refine ⟨m, e, h, rh, re, p.bind fun x h1 m1 H1 v g1 rh1 r1 p1 => ?_⟩
  split at p1
  · cases r1
    exact ⟨_, rfl, p1.here rh1 rfl⟩
  · exact p1.elim
theorem s_sl {lo hi : Option Expr} {fl fh : OD} {p2 : Pos} (ha : PE X a (PE_ (FX X cv fn xs) W fa)) (hl : L2.PO X lo (OO_ (FX X cv fn xs) W fl)) (hh : L2.PO X hi (OO_ (FX X cv fn xs) W fh)) : PE X (.Subscript a (.Slice lo hi none p2) pos) (PE_ (FX X cv fn xs) W (dSl fa fl fh)) :=
  peImp (pe_slice o_sl ha hl hh) fun σ H Q q => by
    obtain ⟨m, e, h, rh, re, p⟩ := q
    refine ⟨m, e, h, rh, re, p.bind fun x h1 m1 H1 v g1 rh1 r1 p1 => ⟨m1, e, h1, rh1, g1.re re, p1.bind fun l h2 m2 H2 l' g2 rh2 r2 p2 => ⟨m2, e, h2, rh2, g2.re (g1.re re), p2.bind fun u h3 m3 H3 u' g3 rh3 r3 p3 => ?_⟩⟩⟩
    subst r2; subst r3
    exact ⟨W, σ, m3, h3, x, rh3, (g2.trans g3).rd r1, p3⟩
theorem m_rev : MtR X "list.reverse" (rM (FX X cv fn xs) mRev) := by
  intro pins s σ0 H x xs v us Q I rx rs hh
  obtain ⟨W, σ, m, h, d, ds, rh, rd, rds, p⟩ := hh
  unfold mRev at p
  split at p
  · cases rd
    cases rds
    split at p
    · rename_i e
      obtain ⟨hl, vs, q1, q2⟩ := rh.mut e
      obtain ⟨g, rh'⟩ := rh.putL e q1 q2.reverse
      exact mt_reverse pins s σ0 H _ _ v us Q I rx rs ⟨_, _, rfl, rfl, q1, p m _ _ g rh' .non⟩
    · exact p.elim
  · exact p.elim
theorem m_popAt : MtR X "list.pop" (rM (FX X cv fn xs) mPopAt) := by
  intro pins s σ0 H x xs v us Q I rx rs hh
  obtain ⟨W, σ, m, h, d, ds, rh, rd, rds, p⟩ := hh
  unfold mPopAt at p
  split at p
  · cases rd
    obtain ⟨y, rfl, ry⟩ := rds1 rds
    cases ry
    split at p
    · rename_i e
      split at p
      · rename_i hb
        split at p
        · rename_i j ej
          split at p
          · rename_i y ey
            obtain ⟨hl, vs, q1, q2⟩ := rh.mut e
            obtain ⟨w, ew, rw'⟩ := q2.get ey
            obtain ⟨g, rh'⟩ := rh.putL e q1 (q2.erase j)
            exact mt_popAt pins s σ0 H _ _ v us Q I rx rs ⟨_, _, _, j, _, rfl, rfl, q1, hb.1, hb.2, by rw [← q2.length]; exact (ixN_seq ej).1, ew, p m _ _ g rh' (g.rd rw')⟩
          · exact p.elim
        · exact p.elim
      · exact p.elim
    · exact p.elim
  · exact p.elim
theorem m_insert : MtR X "list.insert" (rM (FX X cv fn xs) mInsert) := by
  intro pins s σ0 H x xs v us Q I rx rs hh
  obtain ⟨W, σ, m, h, d, ds, rh, rd, rds, p⟩ := hh
  unfold mInsert at p
  split at p
  · cases rd
    obtain ⟨y, z, rfl, ry, rz⟩ := rds2 rds
    cases ry
    split at p
    · rename_i e
      split at p
      · rename_i hb
        obtain ⟨hl, vs, q1, q2⟩ := rh.mut e
        obtain ⟨g, rh'⟩ := rh.putL e q1 (((q2.take _).snoc rz).append (q2.drop _))
        exact mt_insert pins s σ0 H _ _ v us Q I rx rs ⟨_, _, _, _, rfl, rfl, q1, by rw [sizeLine_eq, ← q2.length]; exact hb.1, hb.2.1, hb.2.2, p m _ _ g rh' .non⟩
      · exact p.elim
    · exact p.elim
  · exact p.elim
theorem m_extend : MtR X "list.extend" (rM (FX X cv fn xs) mExtend) := by
  intro pins s σ0 H x xs v us Q I rx rs hh
  obtain ⟨W, σ, m, h, d, ds, rh, rd, rds, p⟩ := hh
  unfold mExtend at p
  split at p
  · cases rd
    obtain ⟨y, rfl, ry⟩ := rds1 rds
    cases ry
    split at p
    · rename_i e1 e2
      split at p
      · rename_i hb
        obtain ⟨_, vs, q1, q2⟩ := rh.mut e1
        obtain ⟨_, ws, q3, q4⟩ := rh.mut e2
        obtain ⟨g, rh'⟩ := rh.putL e1 q1 (q2.append q4)
        exact mt_extend pins s σ0 H _ _ v us Q I rx rs ⟨_, _, _, _, rfl, rfl, q1, q3, by rw [sizeLine_eq, ← q2.length, ← q4.length]; exact hb, p m _ _ g rh' .non⟩
      · exact p.elim
    · exact p.elim
  · exact p.elim
theorem ixF_rd {T : Fx} {m : Nat → Addr} {h : Hh} {H : Hp} {y : D} {w : V} (ry : RD T.K m h.length H y w) (fy : flatD y = true) : ∀ {ds : List D} {vs : List V} {j : Nat}, RDs T.K m h.length H ds vs → ds.all flatD = true → ixF (fun z => eqF z y) ds = some j →
    (∃ z, vs[j]? = some z ∧ eqV z w = true) ∧ ∀ (k : Nat) (z' : V), k < j → vs[k]? = some z' → eqV z' w = false
  | _, _, j, .nil, _, e => by cases e
  | _, _, j, .cons (d := d) (v := v) r rs, f, e => by
    rw [List.all_cons, Bool.and_eq_true] at f
    have k1 := eqF_rd r ry f.1 fy
    unfold ixF at e
    split at e
    · rename_i hz
      cases e
      exact ⟨⟨v, rfl, by rw [k1]; exact hz⟩, fun k z' hk => absurd hk (Nat.not_lt_zero _)⟩
    · rename_i hz
      cases q : ixF (fun z => eqF z y) _ with
      | none => rw [q] at e; cases e
      | some i =>
        rw [q] at e
        cases e
        obtain ⟨⟨z, z1, z2⟩, z3⟩ := ixF_rd ry fy rs f.2 q
        refine ⟨⟨z, by simpa using z1, z2⟩, fun k z' hk ek => ?_⟩
        cases k with
        | zero => cases ek; rw [k1]; exact Bool.eq_false_iff.mpr hz
        | succ k => exact z3 k z' (Nat.lt_of_succ_lt_succ hk) (by simpa using ek)
theorem ixP_spec (f : PyData → Bool) : ∀ {ds : List PyData} {j : Nat}, ixP f ds = some j → (∃ z, ds[j]? = some z ∧ f z = true) ∧ ∀ (k : Nat) (z' : PyData), k < j → ds[k]? = some z' → f z' = false
  | [], j, e => by cases e
  | d :: ds, j, e => by
    unfold ixP at e
    split at e
    · rename_i hz
      cases e
      exact ⟨⟨d, rfl, hz⟩, fun k z' hk => absurd hk (Nat.not_lt_zero _)⟩
    · rename_i hz
      cases q : ixP f ds with
      | none => rw [q] at e; cases e
      | some i =>
        rw [q] at e
        cases e
        obtain ⟨⟨z, z1, z2⟩, z3⟩ := ixP_spec f q
        refine ⟨⟨z, by simpa using z1, z2⟩, fun k z' hk ek => ?_⟩
        cases k with
        | zero => cases ek; exact Bool.eq_false_iff.mpr hz
        | succ k => exact z3 k z' (Nat.lt_of_succ_lt_succ hk) (by simpa using ek)
theorem m_index (hu : X.A.units + 65 < cLine) : MtR X "list.index" (rM (FX X cv fn xs) mIndex) := by
  intro pins s σ0 H x xs v us Q I rx rs hh
  obtain ⟨W, σ, m, h, d, ds, rh, rd, rds, p⟩ := hh
  unfold mIndex at p
  split at p
  · rename_i n y
    have rd0 := rd
    cases rd
    obtain ⟨w, rfl, ry⟩ := rds1 rds
    split at p
    · rename_i e
      obtain ⟨_, vs, sq, q⟩ := rh.lst e
      split at p
      · rename_i hf
        split at p
        · rename_i j ej
          obtain ⟨⟨z, z1, z2⟩, z3⟩ := ixF_rd ry hf.1 q hf.2 ej
          exact mt_index pins s σ0 H _ _ v us Q I rx rs ⟨_, vs, w, j, z, rfl, rfl, sq, flat_rd ry hf.1, flat_all q hf.2, z1, z2, z3, p.here rh (.int _)⟩
        · exact p.elim
      · split at p
        · rename_i ps pp e1 e2
          split at p
          · rename_i hs
            split at p
            · rename_i j ej
              obtain ⟨⟨z, z1, z2⟩, z3⟩ := ixP_spec _ ej
              exact mt_indexD hu pins s σ0 H _ _ v us Q I rx rs ⟨_, w, _, _, j, z, rfl, rfl, toPD_dp rh _ _ _ _ e1 rd0, toPD_dp rh _ _ _ _ e2 ry, hs.1, hs.2, z1, z2, z3, p.here rh (.int _)⟩
            · exact p.elim
          · exact p.elim
        · exact p.elim
    · exact p.elim
  · exact p.elim
theorem m_remove : MtR X "list.remove" (rM (FX X cv fn xs) mRemove) := by
  intro pins s σ0 H x xs v us Q I rx rs hh
  obtain ⟨W, σ, m, h, d, ds, rh, rd, rds, p⟩ := hh
  unfold mRemove at p
  split at p
  · cases rd
    obtain ⟨y, rfl, ry⟩ := rds1 rds
    cases ry
    split at p
    · rename_i e
      split at p
      · rename_i is ei
        split at p
        · rename_i j ej
          obtain ⟨_, vs, q1, q2⟩ := rh.mut e
          have ev := intsOf_rd q2 ei
          subst ev
          obtain ⟨hl, z1, z2⟩ := List.findIdx?_eq_some_iff_getElem.mp ej
          obtain ⟨g, rh'⟩ := rh.putL e q1 (RDs.intsD (is.eraseIdx j))
          refine mt_remove pins s σ0 H _ _ v us Q I rx rs ⟨_, is, _, j, rfl, rfl, q1, ?_, fun k hk ek => ?_, p m _ _ g rh' .non⟩
          · rw [List.getElem?_eq_getElem hl]; exact congrArg some (by simpa using z1)
          · have := z2 k hk
            rw [List.getElem?_eq_getElem (by omega)] at ek
            rw [Option.some.inj ek] at this
            simp at this
        · exact p.elim
      · exact p.elim
    · exact p.elim
  · exact p.elim
theorem m_split : MtR X "str.split" (rM (FX X cv fn xs) mSplit) := by
  intro pins s σ0 H x xs v us Q I rx rs hh
  obtain ⟨W, σ, m, h, d, ds, rh, rd, rds, p⟩ := hh
  unfold mSplit at p
  split at p
  · cases rd
    obtain ⟨y, rfl, ry⟩ := rds1 rds
    cases ry
    split at p
    · rename_i hz
      exact mt_split pins s σ0 H _ _ v us Q I rx rs ⟨_, _, rfl, rfl, hz.1, by rw [sizeLine_eq]; exact hz.2, p.new rh (RDs.strs _)⟩
    · exact p.elim
  · exact p.elim
theorem m_join : MtR X "str.join" (rM (FX X cv fn xs) mJoin) := by
  intro pins s σ0 H x xs v us Q I rx rs hh
  obtain ⟨W, σ, m, h, d, ds, rh, rd, rds, p⟩ := hh
  unfold mJoin at p
  split at p
  · cases rd
    obtain ⟨y, rfl, ry⟩ := rds1 rds
    cases ry
    split at p
    · rename_i ys e
      obtain ⟨es, e1, e2⟩ := Option.bind_eq_some_iff.mp e
      obtain ⟨_, vs, sq, q⟩ := rh.lst e1
      have ev := strsOf_rd q e2
      subst ev
      split at p
      · rename_i hz
        exact mt_join pins s σ0 H _ _ v us Q I rx rs ⟨_, _, ys, rfl, rfl, .inl sq, hz, p.here rh (.str _)⟩
      · exact p.elim
    · exact p.elim
  · exact p.elim
theorem m_rfind : MtR X "str.rfind" (rM (FX X cv fn xs) mRfind) := by
  intro pins s σ0 H x xs v us Q I rx rs hh
  obtain ⟨W, σ, m, h, d, ds, rh, rd, rds, p⟩ := hh
  unfold mRfind at p
  split at p
  · cases rd
    obtain ⟨y, rfl, ry⟩ := rds1 rds
    cases ry
    exact mt_rfind pins s σ0 H _ _ v us Q I rx rs ⟨_, _, rfl, rfl, p.here rh (.int _)⟩
  · exact p.elim
theorem m_part : MtR X "str.partition" (rM (FX X cv fn xs) mPart) := by
  intro pins s σ0 H x xs v us Q I rx rs hh
  obtain ⟨W, σ, m, h, d, ds, rh, rd, rds, p⟩ := hh
  unfold mPart at p
  split at p
  · cases rd
    obtain ⟨y, rfl, ry⟩ := rds1 rds
    cases ry
    split at p
    · rename_i hz
      exact mt_partition pins s σ0 H _ _ v us Q I rx rs ⟨_, _, rfl, rfl, hz.1, by rw [sizeLine_eq]; exact hz.2, p.newT rh (.cons (.str _) (.cons (.str _) (.cons (.str _) .nil)))⟩
    · exact p.elim
  · exact p.elim
theorem c_sorted : CallR X (.builtin "sorted") (rN (FX X cv fn xs) fSorted) := by
  intro pins s σ0 H xs us Q I r hh
  obtain ⟨W, σ, m, h, ds, rh, rx, p⟩ := hh
  unfold fSorted at p
  split at p
  · obtain ⟨v, rfl, a⟩ := rds1 rx
    cases a
    split at p
    · rename_i is e
      obtain ⟨es, e1, e2⟩ := Option.bind_eq_some_iff.mp e
      obtain ⟨_, vs, sq, q⟩ := rh.lst e1
      have ev := intsOf_rd q e2
      subst ev
      split at p
      · rename_i hz
        refine cr_sorted pins s σ0 H _ us Q I r ⟨_, is, rfl, sq, hz, fun ns' q' hp hs hq => ?_⟩
        have e : ns' = is.mergeSort (fun a b => decide (a ≤ b)) := by
          refine List.Perm.eq_of_pairwise (le := (· ≤ ·)) (fun a b _ _ h1 h2 => Int.le_antisymm h1 h2) hs ?_ (hp.trans (List.mergeSort_perm _ _).symm)
          have := List.pairwise_mergeSort (le := fun (a b : Int) => decide (a ≤ b)) (fun a b c h1 h2 => decide_eq_true (Int.le_trans (of_decide_eq_true h1) (of_decide_eq_true h2))) (fun a b => by
            rcases Int.le_total a b with h | h <;> simp [h]) is
          exact this.imp fun h => of_decide_eq_true h
        rw [e]
        exact p.new rh (RDs.intsD _) q' hq
      · exact p.elim
    · exact p.elim
  · exact p.elim
end
end Mn
namespace Mn
open PySem L2
section
variable {X : Cx} {cv : Nat → Value} {fn : Nat → Str} {xs : Xs} {W : WX} {pos : Pos} {a b c : Expr} {fa fb fc : ED} {tg tg1 : Expr}
abbrev noW : WX := fun _ _ _ _ => False
theorem s_lc2 {el it it1 : Expr} {ifs ifs1 : List Expr} {scope : Scope} {own : List (Str × Nat)} {fi fi1 : ID} {g g1 : Tg} {is is1 : List Nat} {fe : ED} {tt tt1 : TD} (hx : xs = none)
    (hio : ∀ i ∈ is, i ∈ own.map (·.2)) {σ : L2.St} {H : Hp} {Q : VK} (q : PE_ (FX X cv fn xs) W (dLc2 fi g tt fi1 g1 tt1 fe (own.map (·.2)) is1) σ H Q) :
    tLc2 (PI_ (FX X cv fn xs) W fi) (PG_ (FX X cv fn xs) is g) (PT_ (FX X cv fn xs) noW tt) (PI_ (FX X cv fn xs) noW fi1) (PG_ (FX X cv fn xs) is1 g1) (PT_ (FX X cv fn xs) noW tt1) (PE_ (FX X cv fn xs) noW fe) (own.map (·.2)) is1 σ H Q := by
  obtain ⟨m, e, h, rh, re, p⟩ := q
  refine ⟨m, e, h, rh, re, p.bind fun sq h1 m1 H1 J g01 rh1 wk p1 => ?_⟩
  intro D hD
  obtain ⟨m2, g2, rh2, rd2⟩ := rh1.newL (ds := []) (vs := []) hD .nil
  have eD : m2 h1.length = D := by
    cases rd2
    rfl
  have re2 : RE (FX X cv fn xs) m2 (h1 ++ [O.lst []]).length (upd H1 D (.lst [])) (Mn.wipe e (own.map (·.2))) (L2.wipe σ (own.map (·.2))) := (g2.re (g01.re re)).wipe hx _
  have p2 := p1.base g2
  generalize own.map (·.2) = vs at *
  refine ⟨fun i n H => n = sq.items.length - i ∧ i ≤ sq.items.length ∧ ∃ m h, RH (FX X cv fn xs) m h H ∧ Ge m2 (h1 ++ [O.lst []]) (upd H1 D (.lst [])) m h H ∧
    PO (FX X cv fn xs) W (rdR (FX X cv fn xs)) σ m h H (lc2Go sq.src g tt fi1 g1 tt1 fe (Mn.wipe e vs) is1 h1.length (sq.items.drop i) h) Q, ⟨_, rfl, Nat.zero_le _, m2, _, rh2, Ge.refl, p2⟩, ?_⟩
  rintro i n H3 ⟨rfl, hi3, m3, h3, rh3, g3, p3⟩
  have g13 := g2.trans g3
  have lt1 : h1.length < h3.length := Nat.lt_of_lt_of_le (by rw [List.length_append]; exact Nat.lt_succ_self _) g3.le
  have e3 : m3 h1.length = D := (g3.eq _ (by rw [List.length_append]; exact Nat.lt_succ_self _)).trans eD
  have wk3 := wk m3 h3 H3 rh3 g13.eq g13.le g13.tk
  by_cases hlt : i < sq.items.length
  · right
    rw [List.drop_eq_getElem_cons hlt] at p3
    unfold lc2Go at p3
    split at p3
    · rename_i hok
      obtain ⟨go, _, yl⟩ := wk3 hok
      refine ⟨go i hlt, fun H' => ∃ m h, RH (FX X cv fn xs) m h H' ∧ Ge m2 (h1 ++ [O.lst []]) (upd H1 D (.lst [])) m h H' ∧
        PO (FX X cv fn xs) W (rdR (FX X cv fn xs)) σ m h H' (lc2Go sq.src g tt fi1 g1 tt1 fe (Mn.wipe e vs) is1 h1.length (sq.items.drop (i + 1)) h) Q, fun H' w => ⟨_, by omega, rfl, hlt, w⟩, fun x H4 y => ?_⟩
      obtain ⟨d, ed, g4, rh4, rd4⟩ := yl i x H4 hlt y
      rw [List.getElem?_eq_getElem hlt] at ed
      cases ed
      have p4 := p3.base g4
      split at p4
      · rename_i e1 eg
        refine ⟨m3, h3, _, _, e1, rh4, g4.re (g3.re re2), rd4, eg, fun σ' re' but => ⟨wipe_but but hio, ?_⟩⟩
        refine ⟨m3, e1, h3, rh4, re', ?_⟩
        cases qt : tt e1 h3 with
        | stuck => rw [qt] at p4; exact p4.elim
        | exc x h5 => rw [qt] at p4; exact p4.elim
        | ok k h5 =>
          rw [qt] at p4
          intro m5 H5 b g5 rh5 eb
          subst eb
          cases k with
          | false =>
            rw [if_neg Bool.false_ne_true]
            exact ⟨m5, h5, rh5, (g3.trans g4).trans g5, PO.base (r := lc2Go sq.src g tt fi1 g1 tt1 fe (Mn.wipe e vs) is1 h1.length (sq.items.drop (i + 1)) h5) p4 g5⟩
          | true =>
            rw [if_pos rfl]
            have g35 := (g3.trans g4).trans g5
            refine ⟨m5, e1, h5, rh5, g5.re re', ?_⟩
            have p5 := PO.base (r := (noX (fi1 e1 h5)).bind fun sq2 h2 => (lcGo sq2.src g1 tt1 fe (Mn.wipe e1 is1) h1.length sq2.items h2).bind fun _ h3 => lc2Go sq.src g tt fi1 g1 tt1 fe (Mn.wipe e vs) is1 h1.length (sq.items.drop (i + 1)) h3) p4 g5
            cases qi : fi1 e1 h5 with
            | stuck => rw [qi] at p5; exact p5.elim
            | exc x h6 => rw [qi] at p5; exact p5.elim
            | ok sq2 h6 =>
              rw [qi] at p5
              intro m6 H6 J1 g6 rh6 wk6
              have p6 := PO.base (r := (lcGo sq2.src g1 tt1 fe (Mn.wipe e1 is1) h1.length sq2.items h6).bind fun _ h3 => lc2Go sq.src g tt fi1 g1 tt1 fe (Mn.wipe e vs) is1 h1.length (sq.items.drop (i + 1)) h3) p5 g6
              have g36 := g35.trans g6
              have reW : RE (FX X cv fn xs) m6 h6.length H6 (Mn.wipe e1 is1) (L2.wipe σ' is1) := (g6.re (g5.re re')).wipe hx _
              refine ⟨fun j n H => n = sq2.items.length - j ∧ j ≤ sq2.items.length ∧ ∃ m h, RH (FX X cv fn xs) m h H ∧ Ge m6 h6 H6 m h H ∧
                PO (FX X cv fn xs) W (rdR (FX X cv fn xs)) σ m h H ((lcGo sq2.src g1 tt1 fe (Mn.wipe e1 is1) h1.length (sq2.items.drop j) h).bind fun _ h3 => lc2Go sq.src g tt fi1 g1 tt1 fe (Mn.wipe e vs) is1 h1.length (sq.items.drop (i + 1)) h3) Q, ⟨_, rfl, Nat.zero_le _, m6, h6, rh6, Ge.refl, p6⟩, ?_⟩
              rintro j n H7 ⟨rfl, hj7, m7, h7, rh7, g7, p7⟩
              have lt7 : h1.length < h7.length := Nat.lt_of_lt_of_le lt1 (Nat.le_trans (Nat.le_trans g5.le g6.le) g7.le)
              have e7 : m7 h1.length = D := (g7.eq _ (Nat.lt_of_lt_of_le lt1 (Nat.le_trans g5.le g6.le))).trans ((g6.eq _ (Nat.lt_of_lt_of_le lt1 g5.le)).trans ((g5.eq _ lt1).trans e3))
              have wk7 := wk6 m7 h7 H7 rh7 g7.eq g7.le g7.tk
              by_cases hlj : j < sq2.items.length
              · right
                rw [List.drop_eq_getElem_cons hlj] at p7
                unfold lcGo at p7
                split at p7
                · rename_i hok1
                  obtain ⟨go1, _, yl1⟩ := wk7 hok1
                  refine ⟨go1 j hlj, fun H' => ∃ m h, RH (FX X cv fn xs) m h H' ∧ Ge m6 h6 H6 m h H' ∧
                    PO (FX X cv fn xs) W (rdR (FX X cv fn xs)) σ m h H' ((lcGo sq2.src g1 tt1 fe (Mn.wipe e1 is1) h1.length (sq2.items.drop (j + 1)) h).bind fun _ h3 => lc2Go sq.src g tt fi1 g1 tt1 fe (Mn.wipe e vs) is1 h1.length (sq.items.drop (i + 1)) h3) Q, fun H' w => ⟨_, by omega, rfl, hlj, w⟩, fun x2 H8 y2 => ?_⟩
                  obtain ⟨d2, ed2, g8, rh8, rd8⟩ := yl1 j x2 H8 hlj y2
                  rw [List.getElem?_eq_getElem hlj] at ed2
                  cases ed2
                  have p8 := p7.base g8
                  split at p8
                  · rename_i e9 eg9
                    refine ⟨m7, h7, _, _, e9, rh8, g8.re (g7.re reW), rd8, eg9, fun σ9 re9 but9 => ⟨wipe_but but9 (fun _ z => z), ?_⟩⟩
                    refine ⟨m7, e9, h7, rh8, re9, ?_⟩
                    cases qt2 : tt1 e9 h7 with
                    | stuck => rw [qt2] at p8; exact p8.elim
                    | exc x h5 => rw [qt2] at p8; exact p8.elim
                    | ok k2 h9 =>
                      rw [qt2] at p8
                      intro m9 H9 b9 g9 rh9 eb9
                      subst eb9
                      cases k2 with
                      | false =>
                        rw [if_neg Bool.false_ne_true]
                        exact ⟨m9, h9, rh9, (g7.trans g8).trans g9, PO.base (r := (lcGo sq2.src g1 tt1 fe (Mn.wipe e1 is1) h1.length (sq2.items.drop (j + 1)) h9).bind fun _ h3 => lc2Go sq.src g tt fi1 g1 tt1 fe (Mn.wipe e vs) is1 h1.length (sq.items.drop (i + 1)) h3) p8 g9⟩
                      | true =>
                        rw [if_pos rfl]
                        refine ⟨m9, e9, h9, rh9, g9.re re9, ?_⟩
                        cases qe : fe e9 h9 with
                        | stuck => simp only [qe] at p8; exact p8.elim
                        | exc x h5 => simp only [qe] at p8; exact p8.elim
                        | ok y10 h10 =>
                          simp only [qe] at p8
                          intro m10 H10 yv g10 rh10 ry
                          split at p8
                          · rename_i acc ea
                            split at p8
                            · rename_i hz
                              obtain ⟨hn, ws, q1, q2⟩ := rh10.mut ea
                              have e10 : m10 h1.length = D := (g10.eq _ (Nat.lt_of_lt_of_le lt7 g9.le)).trans ((g9.eq _ lt7).trans e7)
                              obtain ⟨g11, rh11⟩ := rh10.putL ea q1 (q2.snoc ry)
                              have g16 := (((g7.trans g8).trans g9).trans g10).trans g11
                              refine ⟨ws, by rw [← e10]; exact q1, by rw [sizeLine_eq, ← q2.length]; exact hz, m10, h10.set h1.length (.lst (acc ++ [y10])), ?_, ?_, ?_⟩
                              · rw [← e10]; exact rh11
                              · rw [e10] at g16; exact g16
                              · rw [← e10]
                                exact PO.base (r := (lcGo sq2.src g1 tt1 fe (Mn.wipe e1 is1) h1.length (sq2.items.drop (j + 1)) (h10.set h1.length (.lst (acc ++ [y10])))).bind fun _ h3 => lc2Go sq.src g tt fi1 g1 tt1 fe (Mn.wipe e vs) is1 h1.length (sq.items.drop (i + 1)) h3) p8 ((g9.trans g10).trans g11)
                            · exact p8.elim
                          · exact p8.elim
                  · exact p8.elim
                · exact p7.elim
              · have ej : j = sq2.items.length := by omega
                subst ej
                left
                rw [List.drop_length] at p7
                unfold lcGo at p7
                split at p7
                · rename_i hok1
                  obtain ⟨_, st1, _⟩ := wk7 hok1
                  exact ⟨st1, m7, h7, rh7, g36.trans g7, p7⟩
                · exact p7.elim
      · exact p4.elim
    · exact p3.elim
  · have ei : i = sq.items.length := by omega
    subst ei
    left
    rw [List.drop_length] at p3
    unfold lc2Go at p3
    split at p3
    · rename_i hok
      obtain ⟨_, st, _⟩ := wk3 hok
      refine ⟨st, ?_⟩
      have r := RD.ref (K := X.K) (m := m3) (H := H3) lt1
      rw [e3] at r
      exact p3.here rh3 r
    · exact p3.elim
theorem s_par {i j : Nat} {x y : Str} {px py pt : Pos} {kt k2 : Nat} {pt2 : Pos} (hx0 : xs = none) (hc : X.calm = true) (hN : X.N.Nodup) (hi : X.N[i]? = some x) (hj : X.N[j]? = some y) (hij : i ≠ j)
    (hx : X.env.scope.names.lookup x = some .local) (hy : X.env.scope.names.lookup y = some .local) (ha : PE X a (PE_ (FX X cv fn xs) W fa)) (hb : PE X b (PE_ (FX X cv fn xs) W fb))
    (hab : starEach [a, b] X.env = (false, eval a X.env) :: starEach [b] X.env) (hb1 : starEach [b] X.env = (false, eval b X.env) :: starEach [] X.env)
    (hw : swappedStores [.Tuple [.Name x px, .Name y py] kt pt] (.Tuple [a, b] k2 pt2) X.env = pure (some [x, y])) :
    PS X (.Assign [.Tuple [.Name x px, .Name y py] kt pt] (.Tuple [a, b] k2 pt2) pos) (PS_ (FX X cv fn xs) W (sPar i j fa fb)) :=
  psImp (ps_par hc hN hi hj hij hx hy (pa_cons ha (pa_cons hb pa_nil hb1) hab) hw) fun D σ H q => by
    obtain ⟨m, e, h, rh, re, p⟩ := q
    refine ⟨m, e, h, rh, re, PO.toS re p fun v h1 m1 H1 v1 g1 rh1 r1 p1 => ⟨m1, e, h1, rh1, g1.re re, PO.toS (g1.re re) p1 fun w h2 m2 H2 w1 g2 rh2 r2 p2 => ?_⟩⟩
    have nx : ∀ k, Nx (FX X cv fn xs) k := fun k j a h => by rw [show xs = some (j, a) from h] at hx0; cases hx0
    exact ⟨v1, w1, rfl, p2 m2 H2 _ Ge.refl rh2 (((g2.re (g1.re re)).set i (nx i) (g2.rd r1)).set j (nx j) r2)⟩
theorem o_get : PGet X (r2 (FX X cv fn xs) getL) := by
  intro pins s σ0 H o i ov iv Q I ro ri hh
  obtain ⟨W, σ, m, h, d1, d2, rh, ra, rb, p⟩ := hh
  unfold getL at p
  split at p
  · cases ra
    cases rb
    split at p
    · rename_i e
      split at p
      · rename_i hb
        split at p
        · rename_i d ed
          obtain ⟨_, vs, sq, r⟩ := rh.lst e
          obtain ⟨w, ew, rw'⟩ := r.get ed
          cases ro
          obtain ⟨t, rfl⟩ := ri
          obtain ⟨its, rv, pl, hz⟩ := I.list sq
          obtain ⟨u, eu, ru⟩ := rv.get ew
          exact wpAny_getItem_list pl.isList hb.1 hb.2 (by simpa using eu) ⟨w, H, I, ru, p.here rh rw'⟩
        · exact p.elim
      · exact p.elim
    · exact p.elim
  · exact p.elim
theorem s_augI {op : Operator} {io : D → D → Hh → R D} {tpos : Pos} (hp : PIp X op (r2 (FX X cv fn xs) io)) (ha : PE X a (PE_ (FX X cv fn xs) W fa)) (hb : PE X b (PE_ (FX X cv fn xs) W fb)) (hc : PE X c (PE_ (FX X cv fn xs) W fc))
    (hs : ∀ ov iv new, augStore b ov iv new = (do holding [new, ov, iv] (setItem ov iv new); release [new, ov, iv] []; pure .next)) : PS X (.AugAssign (.Subscript a b tpos) op c pos) (PS_ (FX X cv fn xs) W (sAugI io fa fb fc)) :=
  psImp (ps_augS ha hb o_get hc hp o_set hs) fun D σ H q => by
    obtain ⟨m, e, h, rh, re, p⟩ := q
    refine ⟨m, e, h, rh, re, PO.toS re p fun o h1 m1 H1 o1 g1 rh1 ro p1 => ⟨m1, e, h1, rh1, g1.re re, PO.toS (g1.re re) p1 fun k h2 m2 H2 k1 g2 rh2 rk p2 => ?_⟩⟩
    have re2 := g2.re (g1.re re)
    refine ⟨W, σ, m2, h2, o, k, rh2, g2.rd ro, rk, PO.toS re2 p2 fun v h3 m3 H3 v1 g3 rh3 rv p3 => ⟨m3, e, h3, rh3, g3.re re2, PO.toS (g3.re re2) p3 fun w h4 m4 H4 w1 g4 rh4 rw' p4 => ?_⟩⟩
    have re4 := g4.re (g3.re re2)
    refine ⟨W, σ, m4, h4, v, w, rh4, g4.rd rv, rw', PO.toS re4 p4 fun z h5 m5 H5 z1 g5 rh5 rz p5 => ?_⟩
    have g25 := (g3.trans g4).trans g5
    refine ⟨W, σ, m5, h5, o, k, z, rh5, g25.rd (g2.rd ro), g25.rd rk, rz, PO.toS (g5.re re4) p5 fun _ h6 m6 H6 _ g6 rh6 _ p6 => ?_⟩
    exact p6 m6 H6 σ Ge.refl rh6 (g6.re (g5.re re4))
end
end Mn
namespace Mn
open PySem L2
theorem fnames_nd : fnames.Nodup := by decide +kernel
theorem nd_inj {α : Type} {l : List α} (nd : l.Nodup) {i j : Nat} (hi : i < l.length) (hj : j < l.length) (e : l[i] = l[j]) : i = j := by
  have p := List.pairwise_iff_getElem.mp nd
  rcases Nat.lt_trichotomy i j with h | h | h
  · exact absurd e (p i j hi hj h)
  · exact h
  · exact absurd e.symm (p j i hj hi h)
theorem fnm_inj {i j : Nat} (hi : i < fnames.length) (hj : j < fnames.length) (e : fnm i = fnm j) : i = j := by
  unfold fnm at e
  rw [List.getD_eq_getElem?_getD, List.getD_eq_getElem?_getD, List.getElem?_eq_getElem hi, List.getElem?_eq_getElem hj] at e
  exact nd_inj fnames_nd hi hj e
theorem fn_ne : fnames.all (fun s => !(s == ("" : Str))) = true := by decide +kernel
theorem fnm_inj1 {i g : Nat} (hi : i < fnames.length) (e : fnm i = fnm g) : i = g := by
  by_cases hg : g < fnames.length
  · exact fnm_inj hi hg e
  · exfalso
    unfold fnm at e
    rw [List.getD_eq_getElem?_getD, List.getD_eq_getElem?_getD, List.getElem?_eq_getElem hi, List.getElem?_eq_none (by omega)] at e
    have h := List.all_eq_true.mp fn_ne _ (List.getElem_mem hi)
    rw [show fnames[i] = ("" : Str) from e] at h
    simp at h
abbrev PF (K : PySem.W.Frag) (m : Nat → Addr) (N : Nat) (H : Hp) : Nat × D → Str × V → Prop := fun p q => q.1 = fnm p.1 ∧ RD K m N H p.2 q.2
section
variable {K : PySem.W.Frag} {m : Nat → Addr} {N : Nat} {H : Hp}
theorem look_mem {α : Type} {i : Nat} {d : α} : ∀ {fs : List (Nat × α)}, fs.lookup i = some d → (i, d) ∈ fs
  | [], h => by cases h
  | (g, x) :: r, h => by
    rw [List.lookup_cons] at h
    cases hb : i == g with
    | true =>
      rw [hb] at h
      cases h
      have : i = g := by simpa using hb
      subst this
      exact .head _
    | false =>
      rw [hb] at h
      exact .tail _ (look_mem h)
theorem look_rd {i : Nat} {d : D} : ∀ {fs : List (Nat × D)} {vs : List (Str × V)}, Paired (PF K m N H) fs vs → (∀ p ∈ fs, p.1 < fnames.length) → fs.lookup i = some d → ∃ v, vs.lookup (fnm i) = some v ∧ RD K m N H d v
  | [], _, .nil, _, h => by cases h
  | (g, x) :: r, (s, y) :: vs, .cons a b, hk, h => by
    obtain ⟨a1, a2⟩ := a
    dsimp only at a1 a2
    subst a1
    have hm := hk _ (List.mem_cons_self ..)
    have hi : i < fnames.length := hk _ (look_mem h)
    rw [List.lookup_cons] at h
    rw [List.lookup_cons]
    cases hb : i == g with
    | true =>
      rw [hb] at h
      cases h
      have e : i = g := by simpa using hb
      subst e
      rw [beq_self_eq_true]
      exact ⟨y, rfl, a2⟩
    | false =>
      rw [hb] at h
      have ne : i ≠ g := by simpa using hb
      have e2 : (fnm i == fnm g) = false := by
        refine beq_eq_false_iff_ne.mpr fun z => ne (fnm_inj hi hm z)
      rw [e2]
      exact look_rd b (fun p hp => hk p (.tail _ hp)) h
theorem look_rdX {i : Nat} {d : D} (hi : i < fnames.length) : ∀ {fs : List (Nat × D)} {vs : List (Str × V)}, Paired (PF K m N H) fs vs → fs.lookup i = some d → ∃ v, vs.lookup (fnm i) = some v ∧ RD K m N H d v
  | [], _, .nil, h => by cases h
  | (g, x) :: r, (s, y) :: vs, .cons a b, h => by
    obtain ⟨a1, a2⟩ := a
    dsimp only at a1 a2
    subst a1
    rw [List.lookup_cons] at h
    rw [List.lookup_cons]
    cases hb : i == g with
    | true =>
      rw [hb] at h
      cases h
      have e : i = g := by simpa using hb
      subst e
      rw [beq_self_eq_true]
      exact ⟨y, rfl, a2⟩
    | false =>
      rw [hb] at h
      have ne : i ≠ g := by simpa using hb
      rw [beq_eq_false_iff_ne.mpr fun z => ne (fnm_inj1 hi z)]
      exact look_rdX hi b h
theorem put_rd {i : Nat} {d : D} {v : V} (hi : i < fnames.length) (r : RD K m N H d v) : ∀ {fs : List (Nat × D)} {vs : List (Str × V)}, Paired (PF K m N H) fs vs → (∀ p ∈ fs, p.1 < fnames.length) → Paired (PF K m N H) (putA i d fs) (putF (fnm i) v vs)
  | [], _, .nil, _ => .cons ⟨rfl, r⟩ .nil
  | (g, x) :: fs, (s, y) :: vs, .cons a b, hk => by
    obtain ⟨a1, a2⟩ := a
    dsimp only at a1 a2
    subst a1
    have hm := hk _ (List.mem_cons_self ..)
    unfold putA putF
    by_cases e : g = i
    · subst e
      rw [if_pos rfl, if_pos rfl]
      exact .cons ⟨rfl, r⟩ b
    · rw [if_neg e, if_neg fun z => e (fnm_inj hm hi z)]
      exact .cons ⟨rfl, a2⟩ (put_rd hi r b fun p hp => hk p (.tail _ hp))
theorem put_mem {i : Nat} {d : D} {p : Nat × D} : ∀ {fs : List (Nat × D)}, p ∈ putA i d fs → p.1 = i ∨ p ∈ fs
  | [], h => by cases List.mem_singleton.mp h; exact .inl rfl
  | (g, x) :: fs, h => by
    unfold putA at h
    by_cases e : g = i
    · rw [if_pos e] at h
      rcases List.mem_cons.mp h with h | h
      · subst h; exact .inl e
      · exact .inr (.tail _ h)
    · rw [if_neg e] at h
      rcases List.mem_cons.mp h with h | h
      · subst h; exact .inr (.head _)
      · rcases put_mem h with h | h
        · exact .inl h
        · exact .inr (.tail _ h)
theorem look_no {mm : Str} : ∀ {fs : List (Nat × D)} {vs : List (Str × V)}, Paired (PF K m N H) fs vs → (∀ p ∈ fs, fnm p.1 ≠ mm) → vs.lookup mm = none
  | [], _, .nil, _ => rfl
  | (g, x) :: fs, (s, y) :: vs, .cons a b, hk => by
    obtain ⟨a1, a2⟩ := a
    dsimp only at a1 a2
    subst a1
    rw [List.lookup_cons, beq_eq_false_iff_ne.mpr (Ne.symm (hk _ (List.mem_cons_self ..)))]
    exact look_no b fun p hp => hk p (.tail _ hp)
theorem pf_len : ∀ {fs : List (Nat × D)} {vs : List (Str × V)}, Paired (PF K m N H) fs vs → fs.length = vs.length
  | _, _, .nil => rfl
  | _, _, .cons _ r => congrArg Nat.succ (pf_len r)
end
section
variable {T : Fx} {W : WX}
theorem insAt_of {h : Hh} {x : D} {c : Nat} {fs : List (Nat × D)} (e : insAt h x = some (c, fs)) : ∃ n, x = .ref n ∧ h[n]? = some (.ins c fs) := by
  unfold insAt at e
  split at e
  · rename_i n
    split at e
    · rename_i c' fs' h1
      cases e
      exact ⟨n, rfl, h1⟩
    · cases e
  · cases e
theorem insAt_eq {h : Hh} {n c : Nat} {fs : List (Nat × D)} (e : h[n]? = some (.ins c fs)) : insAt h (.ref n) = some (c, fs) := by
  simp only [insAt, e]
theorem RH.putI {m : Nat → Addr} {h : Hh} {H : Hp} {n c : Nat} {C dx : Addr} {fs fs' : List (Nat × D)} {ws vs' : List (Str × V)} (r : RH T m h H) (hn : h[n]? = some (.ins c fs)) (hC : T.cv c = .ref C) (hw : H (m n) = some (.ins C dx ws)) (q : Paired (PF T.K m h.length H) fs' vs')
    (k : Cls T.K C) (z : ∀ p ∈ fs', p.1 < fnames.length ∧ NoAttr T.K C (fnm p.1)) : Ge m h H m (h.set n (.ins c fs')) (upd H (m n) (.ins C dx vs')) ∧ RH T m (h.set n (.ins c fs')) (upd H (m n) (.ins C dx vs')) :=
  r.put hn rfl rfl hw (fun _ z => by cases z) (fun _ _ z => by cases z) (fun _ z => by cases z) (fun _ _ z => by cases z)
    ⟨C, dx, vs', hC, upd_same, Paired.mapP q fun _ _ z => ⟨z.1, z.2.mono (TK.set hw (fun _ z => by cases z) (fun _ _ z => by cases z) (fun _ z => by cases z) (fun _ _ z => by cases z)) (fun _ _ => rfl) (Nat.le_refl _)⟩, k, z⟩
end
section
variable {X : Cx} {cv : Nat → Value} {fn : Nat → Str} {xs : Xs} {W : WX} {pos : Pos} {a b c o : Expr} {fa fb fo : ED}
theorem fld_rd {σ : L2.St} {m : Nat → Addr} {h : Hh} {H : Hp} {f : Nat} {d : D} {x : V} {Q : VK} (rh : RH (FX X cv fn xs) m h H) (rx : RD X.K m h.length H d x) (p : PO (FX X cv fn xs) W (rdR (FX X cv fn xs)) σ m h H (fldD f d h) Q) :
    ∃ a C dx fs v, x = .ref a ∧ H a = some (.ins C dx fs) ∧ Cls X.K C ∧ NoAttr X.K C (fnm f) ∧ fs.lookup (fnm f) = some v ∧ Q v H := by
  unfold fldD at p
  split at p
  · rename_i c fs e
    obtain ⟨n, rfl, hn⟩ := insAt_of e
    cases rx
    split at p
    · rename_i dv ed
      obtain ⟨C, dx, vs, hC, hw, pf, k, z⟩ := rh.obj n _ hn
      obtain ⟨v, e1, r1⟩ := look_rd pf (fun p hp => (z p hp).1) ed
      exact ⟨_, C, dx, vs, v, rfl, hw, k, (z _ (look_mem ed)).2, e1, p.here rh r1⟩
    · exact p.elim
  · exact p.elim
theorem s_fld {f : Nat} (ho : PE X o (PE_ (FX X cv fn xs) W fo)) (hb : attributeBase o (fnm f) X.env (eval o X.env) = eval o X.env) : PE X (.Attribute o (fnm f) pos) (PE_ (FX X cv fn xs) W (dFld f fo)) :=
  peImp (pe_fld ho hb) fun σ H Q q => by
    obtain ⟨m, e, h, rh, re, p⟩ := q
    exact ⟨m, e, h, rh, re, p.bind fun x h1 m1 H1 xv g1 rh1 rx p1 => fld_rd rh1 rx p1⟩
def NaOk (K : PySem.W.Frag) (cv : Nat → Value) (na : Nat → List Nat) : Prop := ∀ c f, (na c).elem f = true → ∀ C, cv c = .ref C → NoAttr K C (fnm f)
theorem putD_of {na : Nat → List Nat} {f : Nat} {d v : D} {h : Hh} {m : Nat → Addr} {H : Hp} {x y : V} (hna : NaOk X.K cv na) (hf : f < fnames.length) (rh : RH (FX X cv fn xs) m h H) (rx : RD X.K m h.length H d x) (ry : RD X.K m h.length H v y)
    {r : R Unit} (e : putD na f d v h = r) (ns : r ≠ .stuck) : ∃ n c fs C dx ws, d = .ref n ∧ x = .ref (m n) ∧ h[n]? = some (.ins c fs) ∧ cv c = .ref C ∧ H (m n) = some (.ins C dx ws) ∧ Cls X.K C ∧ NoAttr X.K C (fnm f) ∧ ws.length < 1000 ∧
      r = .ok () (h.set n (.ins c (putA f v fs))) ∧ Ge m h H m (h.set n (.ins c (putA f v fs))) (upd H (m n) (.ins C dx (putF (fnm f) y ws))) ∧ RH (FX X cv fn xs) m (h.set n (.ins c (putA f v fs))) (upd H (m n) (.ins C dx (putF (fnm f) y ws))) := by
  unfold putD at e
  split at e
  · rename_i n
    split at e
    · rename_i c fs hn
      split at e
      · rename_i hc
        cases rx
        obtain ⟨C, dx, vs, hC, hw, pf, k, z⟩ := rh.obj n _ hn
        have nf := hna c f hc.1 C hC
        have hl := pf_len pf
        obtain ⟨g, rh'⟩ := rh.putI hn hC hw (put_rd hf ry pf fun p hp => (z p hp).1) k fun p hp => by
          rcases put_mem hp with e1 | hp
          · rw [e1]; exact ⟨hf, nf⟩
          · exact z p hp
        exact ⟨n, c, fs, C, dx, vs, rfl, rfl, hn, hC, hw, k, nf, by omega, e.symm, g, rh'⟩
      · exact absurd e.symm ns
    · exact absurd e.symm ns
  · exact absurd e.symm ns
theorem toS_ok {α : Type} {σ : L2.St} {D : Ends} {e : Ev} {m : Nat → Addr} {h : Hh} {H : Hp} {r : R α} {f : α → Hh → RS} (p : PSo (FX X cv fn xs) W D m h H (r.toS e f)) : r ≠ .stuck := fun z => by rw [z] at p; exact p
theorem s_fl {na : Nat → List Nat} {f : Nat} {p' : Pos} (hna : NaOk X.K cv na) (hf : f < fnames.length) (ho : PE X o (PE_ (FX X cv fn xs) W fo)) (ha : PE X a (PE_ (FX X cv fn xs) W fa)) (hs : swapsWith a (some (.Attribute o (fnm f) p')) pos.line X.env = pure false) :
    PS X (.Assign [.Attribute o (fnm f) p'] a pos) (PS_ (FX X cv fn xs) W (sFl na f fo fa)) :=
  psImp (ps_fld ho ha hs) fun D σ H q => by
    obtain ⟨m, e, h, rh, re, p⟩ := q
    refine ⟨m, e, h, rh, re, PO.toS re p fun v h1 m1 H1 y g1 rh1 ry p1 => ⟨m1, e, h1, rh1, g1.re re, PO.toS (g1.re re) p1 fun x h2 m2 H2 xv g2 rh2 rx p2 => ?_⟩⟩
    obtain ⟨n, c, fs, C, dx, ws, rfl, rfl, hn, hC, hw, k, nf, hl, er, g3, rh3⟩ := putD_of (y := y) hna hf rh2 rx (g2.rd ry) rfl (toS_ok (σ := σ) p2)
    rw [er] at p2
    exact ⟨_, C, dx, ws, rfl, hw, k, nf, hl, p2 m2 _ σ g3 rh3 (g3.re (g2.re (g1.re re)))⟩
theorem s_augF {na : Nat → List Nat} {f : Nat} {op : Operator} {io : D → D → Hh → R D} {p' : Pos} (hna : NaOk X.K cv na) (hf : f < fnames.length) (ho : PE X o (PE_ (FX X cv fn xs) W fo)) (ha : PE X a (PE_ (FX X cv fn xs) W fa)) (hop : PIp X op (r2 (FX X cv fn xs) io)) :
    PS X (.AugAssign (.Attribute o (fnm f) p') op a pos) (PS_ (FX X cv fn xs) W (sAugF na f io fo fa)) :=
  psImp (ps_fldaug ho ha (rd := r2 (FX X cv fn xs) io) fun pins s σ H x y u v Q I rx ry q => hop pins s σ H x y u v Q I rx ry q) fun D σ H q => by
    obtain ⟨m, e, h, rh, re, p⟩ := q
    refine ⟨m, e, h, rh, re, PO.toS re p fun x h1 m1 H1 xv g1 rh1 rx p1 => ?_⟩
    unfold fldD at p1
    split at p1
    · rename_i c fs e0
      obtain ⟨n, rfl, hn⟩ := insAt_of e0
      cases rx
      split at p1
      · rename_i dv ed
        obtain ⟨C, dx, vs, hC, hw, pf, k, z⟩ := rh1.obj n _ hn
        obtain ⟨v, e1, r1⟩ := look_rd pf (fun p hp => (z p hp).1) ed
        refine ⟨_, C, dx, vs, v, rfl, hw, k, (z _ (look_mem ed)).2, e1, m1, e, h1, rh1, g1.re re, ?_⟩
        refine PO.toS (r := fa e h1) (f := fun w h3 => (io dv w h3).toS e fun z h4 => if (insAt h4 (.ref n)).map (·.1) = (insAt h1 (.ref n)).map (·.1) then (putD na f (.ref n) z h4).toS e fun _ h5 => .go .nx e h5 else .stuck) (g1.re re) p1 fun w h3 m3 H3 y g3 rh3 ry p3 => ?_
        refine ⟨W, σ, m3, h3, dv, w, rh3, g3.rd r1, ry, PO.toS (r := io dv w h3) (f := fun z h4 => if (insAt h4 (.ref n)).map (·.1) = (insAt h1 (.ref n)).map (·.1) then (putD na f (.ref n) z h4).toS e fun _ h5 => .go .nx e h5 else .stuck) (g3.re (g1.re re)) p3 fun z4 h4 m4 H4 zv g4 rh4 rz p4 => ?_⟩
        split at p4
        · rename_i hcls
          obtain ⟨n', c', fs', C', dx', ws', en, ex, hn', hC', hw', k', nf', hl', er, g5, rh5⟩ := putD_of (y := zv) hna hf rh4 (g4.rd (g3.rd (RD.ref (K := X.K) (m := m1) (H := H1) (List.getElem?_eq_some_iff.mp hn).1))) rz rfl (toS_ok (σ := σ) p4)
          cases en
          rw [er] at p4
          have ec : c' = c := by
            have e4 : insAt h4 (.ref n) = some (c', fs') := insAt_eq hn'
            rw [e0, e4] at hcls
            exact Option.some.inj hcls
          subst ec
          have eC : C' = C := by have z := hC.symm.trans hC'; cases z; rfl
          subst eC
          have em : m4 n = m1 n := V.ref.inj ex.symm
          rw [em] at hw' g5 rh5
          exact ⟨dx', ws', hw', hl', p4 m4 _ σ g5 rh5 (g5.re (g4.re (g3.re (g1.re re))))⟩
        · exact p4.elim
      · exact p1.elim
    · exact p1.elim
end
end Mn
namespace Mn
open PySem L2
section
variable {T : Fx} {W : WX}
theorem PO.bindE {α β γ δ : Type} {RA : (Nat → Addr) → Nat → Hp → α → β → Prop} {RB : (Nat → Addr) → Nat → Hp → γ → δ → Prop} {σ : L2.St} {m : Nat → Addr} {h : Hh} {H : Hp} {r : R α} {f : α → Hh → R γ} {Q : δ → Hp → Prop} {Q1 : β → Hp → Prop}
    (p : PO T W RB σ m h H (r.bind f) Q) (k : ∀ a h' m' H' b, r = .ok a h' → Ge m h H m' h' H' → RH T m' h' H' → RA m' h'.length H' a b → PO T W RB σ m' h' H' (f a h') Q → Q1 b H') : PO T W RA σ m h H r Q1 := by
  cases r with
  | ok a h' => exact fun m' H' b g rh ra => k a h' m' H' b rfl g rh ra (PO.base (r := f a h') p g)
  | exc x h' => exact p
  | stuck => exact p
theorem PO.call {α β : Type} {RA : (Nat → Addr) → Nat → Hp → α → β → Prop} {σ : L2.St} {m : Nat → Addr} {h : Hh} {H : Hp} {r : R α} {Q : β → Hp → Prop} (p : PO T W RA σ m h H r Q) : PO T (fun c d _ H => WE W σ c d H) RA [] m h H r Q := by
  cases r with
  | ok a h' => exact p
  | exc x h' => exact p
  | stuck => exact p
end
section
variable {X : Cx} {cv : Nat → Value} {fn : Nat → Str} {W : WX} {pos : Pos}
structure MtOk (X : Cx) (cv : Nat → Value) (fn : Nat → Str) (mm : Str) (nw c : Nat) (f : FD) : Prop where
  ex : ∃ (C g : Addr) (k : Nat) (fd : FuncData) (ps : List Str) (gT : FD) (dds : List D) (dvs : List V) (ws : List Value), cv c = .ref C ∧ Meth X.K C mm g ∧ FnOk X.prog X.w X.K X.mg X.base (L2N.CX X.prog X.w) k g fd ps (spT (FX X cv fn none) ps.length gT) ∧ Room k X.A ∧
    Binds X.K fd ps ws ∧ Vals dvs ws ∧ (∀ m N H, RDs X.K m N H dds dvs) ∧ (nw + 1) + dvs.length = ps.length ∧ f = fun ds => gT (ds ++ dds)
theorem meth_ne {m : Nat → Addr} {N : Nat} {H : Hp} {C g : Addr} {mm : Str} {fs : List (Nat × D)} {vs : List (Str × V)} (pf : Paired (PF X.K m N H) fs vs) (z : ∀ p ∈ fs, p.1 < fnames.length ∧ NoAttr X.K C (fnm p.1)) (M : Meth X.K C mm g) : vs.lookup mm = none :=
  look_no pf fun p hp e => by
    have h := (z p hp).2
    unfold NoAttr at h
    rw [e, M.at_] at h
    cases h
theorem s_meth {oe : Expr} {mm : Str} {es : List Expr} {apos : Pos} {ms : List (Nat × FD)} {fo : ED} {as : AD} (ho : PE X oe (PE_ (FX X cv fn none) W fo)) (ha : PA X es (PA_ (FX X cv fn none) W as)) (tk : L2N.Takes X W)
    (hlen : ∀ e h ds h', as e h = .ok ds h' → ds.length = es.length) (hnil : es = [] → as = aN) (hms : ∀ c f, ms.lookup c = some f → MtOk X cv fn mm es.length c f)
    (hst : ∀ e r, es = e :: r → starEach (e :: r) X.env = (false, eval e X.env) :: starEach r X.env ∧ (backTo pos (starEach r X.env)).any (·.1) = false)
    (ht : eval (.Call (.Attribute oe mm apos) es [] pos) X.env = (do
      let ov ← eval oe X.env
      standAt apos.atName
      let (f, first) ← holding [ov] (getMethod ov mm (plainOf oe X.env))
      callWith pos f first (backTo pos (starEach es X.env)) (backToKw pos (keywordEach [] X.env)))) :
    PE X (.Call (.Attribute oe mm apos) es [] pos) (PE_ (FX X cv fn none) W (dMe ms fo as)) := by
  refine ⟨fun pins s σ H Q I hq => ?_⟩
  obtain ⟨m, e, h, rh, re, p⟩ := hq
  have pre : PE_ (FX X cv fn none) W fo σ H fun x H1 => ∃ (C g a dx : Addr) (vf : List (Str × V)) (k : Nat) (fd : FuncData) (ps : List Str) (gT : FD) (dvs : List V) (ws : List Value), x = .ref a ∧ H1 a = some (.ins C dx vf) ∧ Cls X.K C ∧ Meth X.K C mm g ∧ vf.lookup mm = none ∧
      FnOk X.prog X.w X.K X.mg X.base (L2N.CX X.prog X.w) k g fd ps (spT (FX X cv fn none) ps.length gT) ∧ Room k X.A ∧ Binds X.K fd ps ws ∧ Vals dvs ws ∧
      PA_ (FX X cv fn none) W as σ H1 fun vs H2 => spT (FX X cv fn none) ps.length gT ((.ref a :: vs) ++ dvs) H2 Q (WE W σ) := by
    refine ⟨m, e, h, rh, re, p.bind fun x h1 m1 H1 xv g1 rh1 rx p1 => ?_⟩
    split at p1
    · rename_i c fs e0
      obtain ⟨n, rfl, hn⟩ := insAt_of e0
      split at p1
      · rename_i f ef
        obtain ⟨C, g, k, fd, ps, gT, dds, dvs, ws, hC, M, F, hr, hb, hd, hdd, hl, rfl⟩ := (hms c f ef).ex
        obtain ⟨C', dx, vs, hC', hw, pf, cl, z⟩ := rh1.obj n _ hn
        have eC : C' = C := by have z := hC.symm.trans hC'; cases z; rfl
        subst eC
        have rx0 := rx
        cases rx
        refine ⟨C', g, _, dx, vs, k, fd, ps, gT, dvs, ws, rfl, hw, cl, M, meth_ne pf z M, F, hr, hb, hd, m1, e, h1, rh1, g1.re re, p1.bindE fun ds h2 m2 H2 us eq g2 rh2 r2 p2 => ?_⟩
        refine ⟨?_, m2, h2, (.ref n :: ds) ++ dds, rh2, (RDs.cons (g2.rd rx0) r2).append (hdd _ _ _), p2.call⟩
        rw [List.length_append, List.length_cons, ← r2.length, hlen _ _ _ _ eq]
        exact hl
      · exact p1.elim
    · exact p1.elim
  refine PySem.W.methodCall_KW (pl := plainOf oe X.env) (thn (ho.run pins s σ H _ I pre) fun u s1 hh => ?_) ht
  obtain ⟨x, H1, I1, rx, C, g, a, dx, vf, k, fd, ps, gT, dvs, ws, rfl, hw, cl, M, l0, F, hr, hb, hd, q⟩ := hh
  obtain rfl : u = Value.ref a := rx
  refine getmeth_ok I1 hw cl M l0 ?_
  cases es with
  | nil =>
    cases hnil rfl
    obtain ⟨m1, e1, h1, rh1, re1, p1⟩ := q
    exact PySem.W.callWith_K0 (first := [.ref a]) I1.kIn M.kp (run_own (us := [.ref a]) (vs := [.ref a]) F hr hb hd (L2N.passAt tk σ) I1 (.cons rfl .nil) (p1.here rh1 .nil))
  | cons e1 er =>
    obtain ⟨h1, h2⟩ := hst e1 er rfl
    refine PySem.W.callWith_K (first := [.ref a]) (h₀ := X.base) I.ok.mod.kin M.kp (thn (ha.run pos pins s1 σ H1 _ I1 q) fun us s2 ⟨vs, H2, I2, r2, q2⟩ => ⟨I2.kIn, ?_⟩) h1 h2
    exact run_own (us := .ref a :: us) (vs := .ref a :: vs) F hr hb hd (L2N.passAt tk σ) I2 (.cons rfl r2) q2
theorem RH.made {T : Fx} {m : Nat → Addr} {h : Hh} {H : Hp} {x dx C : Addr} {c : Nat} (r : RH T m h H) (hx : H x = none) (hd : H dx = none) (ne : dx ≠ x) (hC : T.cv c = .ref C) (k : Cls T.K C) :
    ∃ m', Ge m h H m' (h ++ [.ins c []]) (upd (upd H dx (.own x)) x (.ins C dx [])) ∧ RH T m' (h ++ [.ins c []]) (upd (upd H dx (.own x)) x (.ins C dx [])) ∧ RD T.K m' (h ++ [O.ins c []]).length (upd (upd H dx (.own x)) x (.ins C dx [])) (.ref h.length) (.ref x) := by
  obtain ⟨g1, r1⟩ := r.lay (u := .own x) hd
  obtain ⟨m', g2, r2, rd⟩ := r1.new (p := x) (u := .ins C dx []) (o := .ins c []) (by rw [upd_ne (Ne.symm ne)]; exact hx) fun m' _ _ => ⟨C, dx, [], hC, upd_same, .nil, k, fun p hp => by cases hp⟩
  exact ⟨m', g1.trans g2, r2, rd⟩
theorem run_mk {k : Nat} {C f : Addr} {fd : FuncData} {ps : List Str} {sp : Sp} {E : XK} {pins : List (Addr × Obj)} {σ : L2.St} {H : Hp} {s : Shared} {Q : VK} {us : List Value} {kw : List (Str × Value)} {bs : Addr → List V} {bv : Addr → List Value}
    (M : Mk X.K C f) (F : FnOk X.prog X.w X.K X.mg X.base (L2N.CX X.prog X.w) k f fd ps sp) (hr : Room (k + 1) X.A) (hx : PassesAt (L2N.CX X.prog X.w) X σ E) (I : Inv X pins σ H s) 
    (hb : ∀ (x : Addr) (s' : Shared), X.K.In s'.heap → BindsTo s' fd ⟨.ref x :: us, kw⟩ (ps.zip (bv x))) (r : ∀ x, Vals (bs x) (bv x))
    (h : ∀ x dx, H x = none → H dx = none → dx ≠ x → sp (bs x) (upd (upd H dx (.own x)) x (.ins C dx [])) (fun v H2 => v = .non ∧ Q (.ref x) H2) E) :
    wpAny (model X.prog X.w) X.A (call (.ref C) us kw) (EP X pins σ Q) X.xe s := by
  have hlt : s.heap.objs.size ≠ s.heap.objs.size + 1 := Nat.ne_of_lt (Nat.lt_succ_self _)
  have start := h (s.heap.objs.size + 1) s.heap.objs.size (I.hok.fresh (Nat.le_succ _)) (I.hok.fresh (Nat.le_refl _)) hlt
  have J := Inv.made (C := C) I
  have run := F.run (X.A.under (.builtin "type.__call__" ⟨.ref C :: us, kw⟩)) X.stack _ _ ⟨.ref (s.heap.objs.size + 1) :: us, kw⟩ (bv (s.heap.objs.size + 1)) (bs (s.heap.objs.size + 1)) _ E (hr.make C us kw) (J.env0.make C us kw)
    (hb _ _ J.kIn) (r _) start
  refine wpAny_call (make_map (f := f) I.kIn M.makes M.init (beq_iff_eq.mp M.fn) (codeAny_mono run fun res s2 q => ?_))
  match res, q with
  | .error x, q => exact hx pins _ _ x s2 J q
  | .ok (.ret w), q =>
    obtain ⟨v, H', I3, rv, ev, q3⟩ := J.after q
    subst ev
    exact ⟨rv, V.ref (s.heap.objs.size + 1), H', I3, rfl, q3⟩
  | .ok .next, q => exact q.elim
  | .ok .brk, q => exact q.elim
  | .ok .cont, q => exact q.elim
theorem mk_rd {σ : L2.St} {m : Nat → Addr} {h : Hh} {H : Hp} {c : Nat} {C : Addr} {g : FD} {as : List D → List D} {bs : List V} {n : Nat} {Q : VK} (hC : cv c = .ref C) (k : Cls X.K C) (rh : RH (FX X cv fn none) m h H) (hn : bs.length + 1 = n)
    (ra : ∀ {m' N' H'} {d : D} {x : V}, Ge m h H m' (h ++ [.ins c []]) H' → N' = (h ++ [O.ins c []]).length → RD X.K m' N' H' d x → RDs X.K m' N' H' (as [d]) (x :: bs))
    (p : PO (FX X cv fn none) W (rdR (FX X cv fn none)) σ m h H ((g (as [.ref h.length]) (h ++ [.ins c []])).bind fun r h2 => match r with
      | .non => .ok (.ref h.length) h2
      | _ => .stuck) Q) :
    ∀ x dx, H x = none → H dx = none → dx ≠ x → spT (FX X cv fn none) n g (.ref x :: bs) (upd (upd H dx (.own x)) x (.ins C dx [])) (fun v H2 => v = .non ∧ Q (.ref x) H2) (WE W σ) := by
  intro x dx hx hd ne
  obtain ⟨m', g1, r1, rd⟩ := rh.made (c := c) hx hd ne hC k
  refine ⟨hn, m', h ++ [.ins c []], as [.ref h.length], r1, ra g1 rfl rd, PO.call ((p.base g1).bind fun r h2 m2 H2 v g2 rh2 rv p2 => ?_)⟩
  split at p2
  · cases rv
    exact ⟨rfl, p2.here rh2 (g2.rd rd)⟩
  · exact p2.elim
structure CtOk (X : Cx) (cv : Nat → Value) (fn : Nat → Str) (c : Nat) (C g : Addr) (k : Nat) (fd : FuncData) (ps : List Str) (f : FD) : Prop where
  hC : cv c = .ref C
  cl : Cls X.K C
  mkc : Mk X.K C g
  F : FnOk X.prog X.w X.K X.mg X.base (L2N.CX X.prog X.w) k g fd ps (spT (FX X cv fn none) ps.length f)
  r : Room (k + 1) X.A
theorem s_mk {x : Str} {p : Pos} {es : List Expr} {c k : Nat} {C g : Addr} {fd : FuncData} {ps : List Str} {f : FD} {as : AD} {dds : List D} {dvs : List V} {ws : List Value} (K : CtOk X cv fn c C g k fd ps f) (hg : Gl X x) (hm : X.mg x = some (.ref C)) (ha : PA X es (PA_ (FX X cv fn none) W as)) (tk : L2N.Takes X W)
    (hlen : ∀ e h ds h', as e h = .ok ds h' → ds.length = es.length) (hnil : es = [] → as = aN) (hb : Binds X.K fd ps ws) (hd : Vals dvs ws) (hdd : ∀ m N H, RDs X.K m N H dds dvs) (hn : (es.length + 1) + dvs.length = ps.length)
    (hst : ∀ e r, es = e :: r → starEach (e :: r) X.env = (false, eval e X.env) :: starEach r X.env ∧ (backTo pos (starEach r X.env)).any (·.1) = false) (hdb : (x == ("__debug__" : Str)) = false) :
    PE X (.Call (.Name x p) es [] pos) (PE_ (FX X cv fn none) W (dMk c f as dds)) := by
  refine ⟨fun pins s σ H Q I hq => ?_⟩
  obtain ⟨m, e, h, rh, re, p⟩ := hq
  have pre : PA_ (FX X cv fn none) W as σ H fun vs H1 => vs.length = es.length ∧ ∀ y dx, H1 y = none → H1 dx = none → dx ≠ y → spT (FX X cv fn none) ps.length f (.ref y :: (vs ++ dvs)) (upd (upd H1 dx (.own y)) y (.ins C dx [])) (fun v H2 => v = .non ∧ Q (.ref y) H2) (WE W σ) :=
    ⟨m, e, h, rh, re, PO.bindE p fun ds h1 m1 H1 vs eq g1 rh1 r1 p1 => by
      have l1 : vs.length = es.length := by rw [← r1.length]; exact hlen _ _ _ _ eq
      refine ⟨l1, mk_rd (as := fun l => l ++ (ds ++ dds)) K.hC K.cl rh1 (by rw [List.length_append, l1]; omega) (fun {m' N' H' d x} g2 e2 r2 => ?_) p1⟩
      subst e2
      exact .cons r2 ((g2.rds r1).append (hdd _ _ _))⟩
  refine wpAny_Call_Name_kw (ld_glob I hg hm ?_ hdb)
  have fin : ∀ {s1 : Shared} {us : List Value} {vs : List V} {H1 : Hp}, Inv X pins σ H1 s1 → Vals vs us → (vs.length = es.length ∧ ∀ y dx, H1 y = none → H1 dx = none → dx ≠ y → spT (FX X cv fn none) ps.length f (.ref y :: (vs ++ dvs)) (upd (upd H1 dx (.own y)) y (.ins C dx [])) (fun v H2 => v = .non ∧ Q (.ref y) H2) (WE W σ)) →
      wpAny (model X.prog X.w) X.A (call (.ref C) us) (EP X pins σ Q) X.xe s1 := fun {s1 us vs H1} I1 r q => by
    have rr := r.append hd
    refine run_mk (bs := fun y => .ref y :: (vs ++ dvs)) (bv := fun y => .ref y :: (us ++ ws)) K.mkc K.F K.r (L2N.passAt tk σ) I1 (fun y s' kin => ?_) (fun y => .cons rfl rr) q.2
    have := hb s' (.ref y :: us) kin (by rw [List.cons_append, List.length_cons, ← rr.length, List.length_append, q.1]; omega)
    exact this
  cases es with
  | nil =>
    cases hnil rfl
    obtain ⟨m1, e1, h1, rh1, re1, p1⟩ := pre
    exact PySem.W.callWith_K0 I.kIn K.mkc.kp (fin (us := []) I .nil (p1.here rh1 .nil))
  | cons e1 er =>
    obtain ⟨h1, h2⟩ := hst e1 er rfl
    exact PySem.W.callWith_K (h₀ := X.base) I.ok.mod.kin K.mkc.kp (thn (ha.run pos pins s σ H _ I pre) fun us s2 ⟨vs, H2, I2, r2, q2⟩ => ⟨I2.kIn, fin I2 r2 q2⟩) h1 h2
theorem gKP_rds {K : PySem.W.Frag} {m : Nat → Addr} {N : Nat} {H : Hp} {us mv ws : List D} {vs nv zs : List V} (r1 : RDs K m N H us vs) (r2 : RDs K m N H mv nv) (r3 : RDs K m N H ws zs) : ∀ kp : List KP, RDs K m N H (gKP kp us mv ws) (gKP kp vs nv zs) := by
  have one : ∀ {as : List D} {bs : List V}, RDs K m N H as bs → ∀ i : Nat, (as[i]? = none ∧ bs[i]? = none) ∨ ∃ d v, as[i]? = some d ∧ bs[i]? = some v ∧ RD K m N H d v := fun {as bs} r i => by
    cases e : as[i]? with
    | none =>
      refine .inl ⟨rfl, ?_⟩
      have := List.getElem?_eq_none_iff.mp e
      exact List.getElem?_eq_none (by rw [← r.length]; exact this)
    | some d =>
      obtain ⟨v, h1, h2⟩ := r.get e
      exact .inr ⟨d, v, rfl, h1, h2⟩
  intro kp
  induction kp with
  | nil => exact .nil
  | cons q kp ih =>
    unfold gKP at ih ⊢
    rw [List.filterMap_cons, List.filterMap_cons]
    have key : (KP.gt us mv ws q = none ∧ KP.gt vs nv zs q = none) ∨ ∃ d v, KP.gt us mv ws q = some d ∧ KP.gt vs nv zs q = some v ∧ RD K m N H d v := by
      cases q with
      | p i => exact one r1 i
      | k i => exact one r3 i
      | c i => exact one r2 i
    rcases key with ⟨e1, e2⟩ | ⟨d, v, e1, e2, r⟩
    · rw [e1, e2]; exact ih
    · rw [e1, e2]; exact .cons r ih
theorem gKP_vals {us mv ws : List V} {vs nv zs : List Value} (r1 : Vals us vs) (r2 : Vals mv nv) (r3 : Vals ws zs) : ∀ kp : List KP, Vals (gKP kp us mv ws) (gKP kp vs nv zs) := by
  have one : ∀ {as : List V} {bs : List Value}, Vals as bs → ∀ i : Nat, (as[i]? = none ∧ bs[i]? = none) ∨ ∃ d v, as[i]? = some d ∧ bs[i]? = some v ∧ RelV d v := fun {as bs} r => by
    induction r with
    | nil => intro i; exact .inl ⟨rfl, rfl⟩
    | @cons a b as bs q r ih =>
      intro i
      cases i with
      | zero => exact .inr ⟨a, b, rfl, rfl, q⟩
      | succ i => simpa using ih i
  intro kp
  induction kp with
  | nil => exact .nil
  | cons q kp ih =>
    unfold gKP at ih ⊢
    rw [List.filterMap_cons, List.filterMap_cons]
    have key : (KP.gt us mv ws q = none ∧ KP.gt vs nv zs q = none) ∨ ∃ d v, KP.gt us mv ws q = some d ∧ KP.gt vs nv zs q = some v ∧ RelV d v := by
      cases q with
      | p i => exact one r1 i
      | k i => exact one r3 i
      | c i => exact one r2 i
    rcases key with ⟨e1, e2⟩ | ⟨d, v, e1, e2, r⟩
    · rw [e1, e2]; exact ih
    · rw [e1, e2]; exact .cons r ih
theorem pk_D {fs : AD} {kws : List Keyword} {xs : Xs} {fe : ED} {nm : Option Str} {e : Expr} {kp : Pos} (ha : PE X e (PE_ (FX X cv fn xs) W fe)) (hr : PK X kws (PA_ (FX X cv fn xs) W fs)) : PK X (⟨nm, e, kp⟩ :: kws) (PA_ (FX X cv fn xs) W (aC fe fs)) :=
  ⟨fun pos pins s σ H Q I q => (pk_cons ha hr).run pos pins s σ H Q I (by
    obtain ⟨m, e, h, rh, re, p⟩ := q
    exact ⟨m, e, h, rh, re, p.bind fun d h1 m1 H1 v g1 rh1 r1 p1 => ⟨m1, e, h1, rh1, g1.re re, p1.bind fun ds h2 m2 H2 vs g2 rh2 r2 p2 => p2.here rh2 (.cons (g2.rd r1) r2)⟩⟩)⟩
theorem pk_D0 {xs : Xs} : PK X [] (PA_ (FX X cv fn xs) W aN) := ⟨fun pos pins s σ H Q I q => pk_nil.run pos pins s σ H Q I (by
  obtain ⟨m, e, h, rh, re, p⟩ := q
  exact p.here rh .nil)⟩
theorem s_mkK {x : Str} {p : Pos} {es : List Expr} {kws : List Keyword} {c k : Nat} {C g : Addr} {fd : FuncData} {ps ks : List Str} {f : FD} {as kd : AD} {kp : List KP} {dds : List D} {dvs : List V} {mv : List Value} (K : CtOk X cv fn c C g k fd ps f) (hg : Gl X x) (hm : X.mg x = some (.ref C)) (ha : PA X es (PA_ (FX X cv fn none) W as)) (hk : PK X kws (PA_ (FX X cv fn none) W kd)) (tk : L2N.Takes X W)
    (hlen : ∀ e h ds h', as e h = .ok ds h' → ds.length = es.length) (hlek : ∀ e h ds h', kd e h = .ok ds h' → ds.length = ks.length) (hnil : es = [] → as = aN)
    (hb : KBn X.K fd ps (es.length + 1) ks (fun us ws => gKP kp us mv ws) (fun vs zs => gKP kp vs dvs zs)) (hdd : ∀ m N H, RDs X.K m N H dds dvs) (hn : ∀ (us mv ws : List D), us.length = es.length + 1 → mv.length = dds.length → ws.length = ks.length → (gKP kp us mv ws).length = ps.length)
    (hst : ∀ e r, es = e :: r → starEach (e :: r) X.env = (false, eval e X.env) :: starEach r X.env)
    (hall : (backToKw pos (keywordEach kws X.env)).all (·.1.isSome) = true) (hks : (backToKw pos (keywordEach kws X.env)).filterMap (·.1) = ks)
    (hpl : ((backTo pos (starEach es X.env)).any (·.1) || (backToKw pos (keywordEach kws X.env)).any (·.1.isNone)) = false) (hdb : (x == ("__debug__" : Str)) = false) :
    PE X (.Call (.Name x p) es kws pos) (PE_ (FX X cv fn none) W (dMkK c f kp dds as kd)) := by
  refine ⟨fun pins s σ H Q I hq => ?_⟩
  obtain ⟨m, e, h, rh, re, p⟩ := hq
  have pre : PA_ (FX X cv fn none) W as σ H fun vs H1 => PA_ (FX X cv fn none) W kd σ H1 fun zs H2 => vs.length = es.length ∧ zs.length = ks.length ∧ ∀ y dx, H2 y = none → H2 dx = none → dx ≠ y →
      spT (FX X cv fn none) ps.length f (gKP kp (.ref y :: vs) dvs zs) (upd (upd H2 dx (.own y)) y (.ins C dx [])) (fun v H2 => v = .non ∧ Q (.ref y) H2) (WE W σ) :=
    ⟨m, e, h, rh, re, PO.bindE p fun ds h1 m1 H1 vs eq g1 rh1 r1 p1 => ⟨m1, e, h1, rh1, g1.re re, PO.bindE p1 fun zs h2 m2 H2 ws eq2 g2 rh2 r2 p2 => by
      have l1 : ds.length = es.length := hlen _ _ _ _ eq
      have l2 : zs.length = ks.length := hlek _ _ _ _ eq2
      refine ⟨by rw [← r1.length]; exact l1, by rw [← r2.length]; exact l2, fun y dx hy hd ne => ?_⟩
      obtain ⟨m', g3, r3, rd⟩ := rh2.made (c := c) hy hd ne K.hC K.cl
      have rr := gKP_rds (RDs.cons rd (g3.rds (g2.rds r1))) (hdd m' (h2 ++ [O.ins c []]).length _) (g3.rds r2) kp
      refine ⟨by rw [← rr.length]; exact hn _ _ _ (by rw [List.length_cons, l1]) rfl l2, m', h2 ++ [.ins c []], _, r3, rr, PO.call ((p2.base g3).bind fun r h4 m4 H4 v g4 rh4 rv p4 => ?_)⟩
      split at p4
      · cases rv
        exact ⟨rfl, p4.here rh4 (g4.rd rd)⟩
      · exact p4.elim⟩⟩
  refine wpAny_Call_Name_kw (ld_glob I hg hm ?_ hdb)
  have fin : ∀ {s1 : Shared} {us ws : List Value} {vs zs : List V} {H1 : Hp}, Inv X pins σ H1 s1 → Vals vs us → Vals zs ws → (vs.length = es.length ∧ zs.length = ks.length ∧ ∀ y dx, H1 y = none → H1 dx = none → dx ≠ y →
      spT (FX X cv fn none) ps.length f (gKP kp (.ref y :: vs) dvs zs) (upd (upd H1 dx (.own y)) y (.ins C dx [])) (fun v H2 => v = .non ∧ Q (.ref y) H2) (WE W σ)) → wpAny (model X.prog X.w) X.A (call (.ref C) us (ks.zip ws)) (EP X pins σ Q) X.xe s1 := fun {s1 us ws vs zs H1} I1 r rz q => by
    obtain ⟨q1, q2, q3⟩ := q
    refine run_mk (bs := fun y => gKP kp (.ref y :: vs) dvs zs) (bv := fun y => gKP kp (.ref y :: us) mv ws) K.mkc K.F K.r (L2N.passAt tk σ) I1 (fun y s' kin => ?_) (fun y => hb.rel (.cons rfl r) rz) q3
    exact hb.to s' (.ref y :: us) ws kin (by rw [List.length_cons, ← r.length, q1]) (by rw [← rz.length, q2])
  cases es with
  | nil =>
    cases hnil rfl
    obtain ⟨m1, e1, h1, rh1, re1, p1⟩ := pre
    refine PySem.W.callWith_KW0 (h₀ := X.base) I.ok.mod.kin K.mkc.kp hall (thn (hk.run pos pins s σ H _ I (p1.here rh1 .nil)) fun ws s2 ⟨zs, H2, I2, rz, q2⟩ => ⟨I2.kIn, ?_⟩) hpl
    rw [hks]
    exact fin (us := []) I2 .nil rz q2
  | cons e1 er =>
    refine PySem.W.callWith_KW (h₀ := X.base) I.ok.mod.kin K.mkc.kp hall (thn (ha.run pos pins s σ H _ I pre) fun us s1 ⟨vs, H1, I1, r1, q1⟩ => ?_) hpl (hst e1 er rfl)
    refine thn (hk.run pos pins s1 σ H1 _ I1 q1) fun ws s2 ⟨zs, H2, I2, rz, q2⟩ => ⟨I2.kIn, ?_⟩
    rw [hks]
    exact fin I2 r1 rz q2
end
end Mn
namespace Mn
open PySem L2
def spX (K : PySem.W.Frag) (C : Addr) (ns : List Str) : Sp := fun vs H Q _ => ∃ (a : Addr) (ys : List V), vs = .ref a :: ys ∧ ys.length = ns.length ∧ H a = some (exo a C none) ∧ ∀ dx, H dx = none → dx ≠ a → Q .non (upd (upd H dx (exd dx (ns.zip ys).reverse)) a (exo a C (some dx)))
section
variable {CX : CXT} {P : Program} {w : World} {K : PySem.W.Frag} {mg : Str → Option Value} {base : Heap} {f C : Addr} {name qual : Str} {params : Arguments} {scope : Scope} {dV kV doc pm cdv ct oc : Value} {an od : Option Addr} {osl : Array (Option Value)}
theorem vis_of {N ps : List Str} (S : FnScope N ps scope) {x : Str} (h : x ∈ ps) : Vis scope x := by
  rcases S.par x h with q | q
  · exact .inl q
  · exact .inr (.inl q)
theorem xinit1 {p n : Str} {p1 p2 p3 p4 : Pos} (lk : K.lookup f = some ⟨oc, od, .func (PySem.W.fnOf name qual params [.Assign [.Attribute (.Name "self" p1) n p2] (.Name p p3) p4] scope dV kV doc pm an cdv ct), osl⟩) (hcd : PySem.W.codeIn K cdv qual = true)
    (S : FnScope ["self", p] ["self", p] scope) (h1 : (p == ("__debug__" : Str)) = false) (h2 : (p == ("__classdict__" : Str)) = false) (T : OexC K C) (hn : PySem.W.findIn K (.ref C) n = some none) :
    FnOk P w K mg base CX 1 f (PySem.W.fnOf name qual params [.Assign [.Attribute (.Name "self" p1) n p2] (.Name p p3) p4] scope dV kV doc pm an cdv ct) ["self", p] (spX K C [n]) := by
  refine fn_of lk hcd S (fun vs H Q E h => ?_) fun A outer s H vs Q E hr h => ?_
  · obtain ⟨a, ys, rfl, hl, _⟩ := h
    rw [List.length_cons, hl]
    rfl
  · obtain ⟨a, ys, rfl, hl, ha, q⟩ := h
    match ys, hl with
    | [y], _ =>
      refine ⟨_, pss_one (ps_ost (pe_var (i := 0) rfl (vis_of S (.head _)) (by decide) (by decide)) (pe_var (i := 1) rfl (vis_of S (.tail _ (.head _))) h1 h2) rfl), ?_⟩
      exact ⟨y, rfl, .ref a, rfl, a, C, rfl, T, hn, .inl ⟨ha, fun dx hd ne => q dx hd ne⟩⟩
end
structure XcOk (X : Cx) (cv : Nat → Value) (c : Nat) (C : Addr) (fs : List Nat) : Prop where
  hC : cv c = .ref C
  T : OexC X.K C
  ini : ∃ (fI : Addr) (fd : FuncData) (ps : List Str), PySem.W.findIn X.K (.ref C) "__init__" = some (some (.ref fI)) ∧ PySem.W.typeIn X.K (.ref fI) = some (.type "function") ∧ FnOk X.prog X.w X.K X.mg X.base (L2N.CX X.prog X.w) 1 fI fd ps (spX X.K C (fs.map fnm)) ∧ Binds X.K fd ps []
section
variable {X : Cx} {cv : Nat → Value} {fn : Nat → Str} {W : WX} {pos : Pos}
theorem pf_zip {K : PySem.W.Frag} {m : Nat → Addr} {N : Nat} {H : Hp} : ∀ {fs : List Nat} {ds : List D} {vs : List V}, RDs K m N H ds vs → Paired (PF K m N H) (fs.zip ds) ((fs.map fnm).zip vs)
  | [], _, _, _ => by simp; exact .nil
  | f :: fs, _, _, .nil => by simp; exact .nil
  | f :: fs, _, _, .cons a r => .cons ⟨rfl, a⟩ (pf_zip r)
theorem paired_rev {α β : Type} {R : α → β → Prop} : ∀ {as : List α} {bs : List β}, Paired R as bs → Paired R as.reverse bs.reverse := by
  have app : ∀ {as cs : List α} {bs ds : List β}, Paired R as bs → Paired R cs ds → Paired R (as ++ cs) (bs ++ ds) := fun {as cs bs ds} r s => by
    induction r with
    | nil => exact s
    | cons a _ ih => exact .cons a ih
  intro as bs r
  induction r with
  | nil => exact .nil
  | cons a r ih => rw [List.reverse_cons, List.reverse_cons]; exact app ih (.cons a .nil)
theorem pmk_oexN {CX : CXT} {x : Str} {C fI : Addr} {k : Nat} {fd : FuncData} {ps : List Str} {sp : Sp} {e : Expr} {es : List Expr} {ta : TA} {p : Pos} (T : OexC X.K C) (iC : PySem.W.findIn X.K (.ref C) "__init__" = some (some (.ref fI))) (tI : PySem.W.typeIn X.K (.ref fI) = some (.type "function"))
    (Fn : FnOk X.prog X.w X.K X.mg X.base CX k fI fd ps sp) (hr : Room (k + 1) X.A) (hb : Binds X.K fd ps []) (hx : Passes CX X (fun _ _ _ => False)) (hg : Gl X x) (hm : X.mg x = some (.ref C)) (ha : PA X (e :: es) ta) (hdb : (x == ("__debug__" : Str)) = false)
    (hst : starEach (e :: es) X.env = (false, eval e X.env) :: starEach es X.env) (hpl : (backTo pos (starEach es X.env)).any (·.1) = false) : L2N.PMk X (.Call (.Name x p) (e :: es) [] pos) (tMkO C sp [] ta) := by
  intro pins s0 σ H Q I hq
  refine wpAny_Call_Name_kw (ld_glob I hg hm ?_ hdb)
  refine PySem.W.callWith_K (h₀ := X.base) I.ok.mod.kin T.kC (thn (ha.run pos pins s0 σ H _ I hq) fun us s1 ⟨vs, H1, I1, r1, hl1, q1⟩ => ⟨I1.kIn, ?_⟩) hst hpl
  show wpAny _ _ (call (.ref C) us) _ _ _
  obtain ⟨hp, gs, dr, tk, os⟩ := s1
  obtain ⟨_, _, _, _, bm, _, _, _, _, _, _, _, _, _, _, hC, hbm⟩ := T.cls
  have up : hp.objs.size ≤ hp.objs.size + 1 := Nat.le_add_right _ 1
  have new : H1 (hp.objs.size + 1) = none := I1.hok.fresh up
  have q2 := q1 _ new
  rw [List.append_nil] at q2
  have lay : ∀ b o, hp.get? b = some o → ((hp.push (PySem.W.kdv_tup us)).push (PySem.HandSPX.excO C hp.objs.size)).get? b = some o := fun b o z => Heap.get?_push_of_some _ (Heap.get?_push_of_some _ z)
  have I2 := I1.laid (t' := tk) (o := exo (hp.objs.size + 1) C none) lay up (exo_ok (by heap_get))
  have rv : Vals (V.ref (hp.objs.size + 1) :: vs) (Value.ref (hp.objs.size + 1) :: us) := .cons rfl r1
  have ln : (Value.ref (hp.objs.size + 1) :: us).length = ps.length := rv.length.symm.trans (Fn.len _ _ _ _ q2)
  have bd := hb _ (Value.ref (hp.objs.size + 1) :: us) I2.kIn (by rw [List.append_nil]; exact ln)
  rw [List.append_nil] at bd
  have small : us.length ≤ sizeLine := by rw [← r1.length, sizeLine_eq]; omega
  refine wpAny_call (PySem.HandSPX.call_own PySem.F.excBase_ValueError (fun Y => PySem.HandSPX.refsVE_contains Y bm hbm) (I1.kIn _ _ hC) (PySem.W.looks_findIn I1.kIn iC) (fun y => PySem.W.bind_fn I1.kIn y tI) small ?_)
  refine codeAny_mono (Fn.run _ X.stack _ _ ⟨Value.ref (hp.objs.size + 1) :: us, []⟩ _ _ _ (fun _ _ _ => False) (hr.make C us []) (I2.env0.make C us []) bd rv q2) fun res s' z => ?_
  match res, z with
  | .error er, z => exact hx pins σ _ _ er s' I2 z
  | .ok .next, z => exact z.elim
  | .ok .brk, z => exact z.elim
  | .ok .cont, z => exact z.elim
  | .ok (.ret u), ⟨v, H2, os2, bare, un, hok, ru, ev, d, fs, ea, ed, hd1, q3⟩ =>
    subst ev
    obtain ⟨h2, g2, d2, t2, os'⟩ := s'
    obtain ⟨t0, G, J, kG, ge, hoe, na⟩ := mk_end0 (d2 := d2) (t2 := t2) I1 up lay un hok os2 bare ea ed hd1
    exact ⟨ru, _, _, _, _, _, _, _, rfl, J, kG, ge, hoe, ⟨rfl, rfl, fun ws hw => by cases hw; rfl⟩, rfl, rfl, na, rfl, bare, raises_own T.exC T.tyC, q3⟩
theorem s_raiseA {x : Str} {p1 p2 p3 : Pos} {e : Expr} {es : List Expr} {c : Nat} {C : Addr} {fs : List Nat} {as : AD} (K : XcOk X cv c C fs) (hc : X.calm = true) (tk : L2N.Takes X W) (hr : Room 2 X.A) (hg : Gl X x) (hm : X.mg x = some (.ref C)) (ha : PA X (e :: es) (PA_ (FX X cv fn none) W as)) (hne : fs ≠ []) (h900 : fs.length < 900)
    (hdb : (x == ("__debug__" : Str)) = false) (hst : starEach (e :: es) X.env = (false, eval e X.env) :: starEach es X.env) (hpl : (backTo p2 (starEach es X.env)).any (·.1) = false) :
    PS X (.Raise (some (.Call (.Name x p1) (e :: es) [] p2)) none p3) (PS_ (FX X cv fn none) W (sRaiseA c fs as)) := by
  obtain ⟨fI, fd, ps, i1, i2, F, hb⟩ := K.ini
  refine psImp (L2N.ps_raise hc tk (pmk_oexN K.T i1 i2 F hr hb (fun pins σ H s e s' I q => ?_) hg hm ha hdb hst hpl)) fun D σ H q => ?_
  · exact tk e s' (L2N.XE.of_call I (fun _ _ _ h => h) (by
      have q' := q
      obtain ⟨_, _, _, _, _, _, _, _, _, _, _, _, z⟩ := q'
      exact z.elim))
  · obtain ⟨m, e0, h, rh, re, p⟩ := q
    refine ⟨m, e0, h, rh, re, PO.toS re p fun ds h1 m1 H1 vs g1 rh1 r1 p1 => ?_⟩
    split at p1
    · rename_i hl
      have lv : vs.length = fs.length := by rw [← r1.length]; exact hl
      refine ⟨by omega, fun a hna => ⟨a, vs ++ [], rfl, by rw [List.append_nil, List.length_map]; exact lv, upd_same, fun dx hd ne => ⟨rfl, dx, ((fs.map fnm).zip (vs ++ [])).reverse, upd_same, by rw [upd_ne ne, upd_same], ?_, ?_⟩⟩⟩
      · rw [upd_ne ne] at hd; exact hd
      · have hd1 : H1 dx = none := by rw [upd_ne ne] at hd; exact hd
        rw [List.append_nil]
        have e : upd (del (upd (upd (upd H1 a (exo a C none)) dx (exd dx ((fs.map fnm).zip vs).reverse)) a (exo a C (some dx))) a) dx (.xd ((fs.map fnm).zip vs).reverse) = upd H1 dx (.xd ((fs.map fnm).zip vs).reverse) := by
          funext b
          by_cases hb : b = dx
          · subst hb; rw [upd_same, upd_same]
          · rw [upd_ne hb, upd_ne hb]
            by_cases hc : b = a
            · subst hc; rw [del_same]; exact hna.symm
            · rw [del_ne hc, upd_ne hc, upd_ne hb, upd_ne hc]
        rw [e]
        obtain ⟨g2, rh2⟩ := rh1.lay (u := .xd ((fs.map fnm).zip vs).reverse) hd1
        refine p1 m1 _ σ (.ref C) (some dx) g2 rh2 (g2.re (g1.re re)) ⟨K.hC.symm, fun z => ?_, fun _ => ⟨dx, _, rfl, upd_same, paired_rev (pf_zip (g2.rds r1))⟩⟩
        exfalso
        have z2 := congrArg List.length z
        simp only [List.length_reverse, List.length_zip, List.length_nil, hl, Nat.min_self] at z2
        exact hne (List.length_eq_zero_iff.mp z2)
    · exact p1.elim
end
section
open PySem.W PySem.Spec PySem.Calls PyProof.Rows
variable {prog : Program} {w : World} {A : Around} {EE : Value → Shared → Prop} {st : Shared} {K : Frag} {y D : Addr} {oy : Obj} {dd : Option Obj}
theorem find_cls {nm : Str} {b g : Value} (h0 : (clsIn K D).isSome = true) (h1 : findIn K (.ref D) nm = some (some b)) (h2 : specialIn K b "__get__" = some (some g)) (h3 : takesIn K b = some true) : findObj K D dd nm = some (.bind g b) := by
  obtain ⟨cd, h0⟩ := Option.isSome_iff_exists.mp h0
  unfold findObj
  simp [h0, h1, h2, h3]
theorem cls_told {Q : Option Value → Shared → Prop} (C : ExcC K D) (X : K.In st.heap) (J : InstAt st.heap y oy D dd) (h : Q (some (.ref D)) { st with toks := st.toks + 1 }) : wpAny (model prog w) A (getAttr? (.ref y) "__class__") Q EE st := by
  have found : findObj K D dd "__class__" = some (.bind (.builtin "getset_descriptor.__get__") (.builtin "object.__class__")) := find_cls (by obtain ⟨cd, e, _⟩ := any_some C.hd; rw [e]; rfl) C.ha C.hn C.ht
  obtain ⟨hh, gg, dr, tk, os⟩ := st
  have ty := J.type (M := model prog w)
  have own := looks_findIn (M := model prog w) X C.hg; have hook := looks_findIn (M := model prog w) X C.hk
  have look := looks_find (M := model prog w) X J found
  have isx : Looks (model prog w) hh (isInstance (.ref y) (.type "BaseException")) true := ty.andThen (looks_subIn X C.hs)
  have n1 : (Value.builtin "BaseException.__getattribute__" == Value.builtin "object.__getattribute__") = false := by decide +kernel
  have n2 : (onTheHeap (Value.ref D) && Value.builtin "BaseException.__getattribute__" == Value.builtin "object.__getattribute__") = false := by rw [n1]; rfl
  have n3 : (false && onTheHeap (Value.builtin "BaseException.__getattribute__")) = false := rfl
  unfold getAttr? getAttrBy? getAttrBy; refine wpAny_bind (wpAny_mkText (wpAny_bind (wpAny_attempt (wpAny_holding (wpAny_bind (ty.at (wpAny_bind (own.at ?_)))))))); show wpAny _ _ (if (onTheHeap (Value.ref D) && Value.builtin "BaseException.__getattribute__" == Value.builtin "object.__getattribute__") = true then _ else _) _ _ _
  rw [n2, if_neg Bool.false_ne_true]; unfold getAttrByItsOwn hookBefore; refine wpAny_bind ?_; rw [if_pos (show onTheHeap (Value.ref D) = true from rfl)]; refine hook.at (wpAny_bind (wpAny_attempt (wpAny_holding ?_)))
  unfold callGetattribute; rw [n3, if_neg Bool.false_ne_true]; unfold boundAndCalled; rw [PySem.F.excAttr_ValueError.ga.bind (.ref y)]; refine wpAny_bind (wpAny_pure ?_)
  show wpAny _ _ (call (.builtin "BaseException.__getattribute__") [.ref y, .str "__class__" tk]) _ _ _
  refine wpAny_call (codeAny_call_builtin PySem.F.excAttr_ValueError.ga.plain PySem.F.entry_bexc_ga (@check_slot (model prog w) _ _ ⟨hh, gg, dr, tk + 1, os⟩ "BaseException.__getattribute__" "BaseException" "__getattribute__" (.ref y) [.str "__class__" tk] [] _ (by decide +kernel) (by decide +kernel) isx (PySem.F.args_bexc_ga (.ref y) (.str "__class__" tk)) ?_))
  unfold Builtin.«object.__getattribute__»; refine wpAny_bind (wpAny_of_eq (a := ((Value.ref y : Value), [Value.str "__class__" tk])) (by first | rfl | (simp only [slotArgs]; rfl)) (wpAny_bind (wpAny_pure (wpAny_bind (ty.at (wpAny_bind (look.at ?_)))))))
  show wpAny _ _ (holding [Value.builtin "object.__class__"] (call (.builtin "getset_descriptor.__get__") [.builtin "object.__class__", .ref y, .ref D]) >>= ret) _ _ _
  refine wpAny_bind (wpAny_holding (wpAny_call (class_get (s := ⟨hh, gg, dr, tk + 1, os⟩) (ox := oy) (od := dd) X J C.hm (wpAny_pure ?_)))); show wpAny _ _ (handedOut (.ref D)) _ _ _
  rw [handedOut_of (v := .ref D) rfl]
  first
    | exact wpAny_pure (wpAny_pure h)
    | exact wpAny_pure h
theorem kit_told (C : ExcC K D) : KitX K (.ref y) (.ref D) (fun h => ∃ dd, InstAt h y oy D dd) where
  ty := fun _ _ _ ⟨_, J⟩ => J.type
  it := fun _ _ X _ => by
    obtain ⟨cd, e, _⟩ := any_some C.hd
    unfold clsIn at e; split at e
    · rename_i hD; intro A' Q' E' s' k q; unfold isType loadHead; exact wpAny_bind (wpAny_loadPart (k _ _ (X _ _ hD)) (wpAny_pure q))
    · cases e
  ne := fun h tp dd its n sl X htp => by
    obtain ⟨cd, e, _⟩ := any_some C.hd
    refine Bool.eq_false_iff.mpr fun q => ?_
    cases Value.ref.inj (beq_iff_eq.mp q)
    unfold clsIn at e; split at e
    · rename_i hD; have z := (X _ _ hD).symm.trans htp; cases z
    · cases e
  ca := fun X ⟨_, J⟩ k => cls_told C X J k
end
section
variable {X : Cx} {a D : Addr} {oe : Obj} {pn : List (Addr × Obj)}
theorem isi_told {d : Option Addr} (C : ExcC X.K D) (hz : Zc (.ref D) d oe) (hf : ∃ vs, oe.data = .fields vs) :
    CallR (X.suite a ((a, oe) :: pn)) (.builtin "isinstance") (fun xs H Q => ∃ (c : V) (cv : Value) (b : Bool), xs = [.ref a, c] ∧ (∀ dd, d = some dd → ∃ fs, H dd = some (.xd fs)) ∧ (∀ u, RelV c u → u = cv) ∧ PySem.W.kitOne X.K (.ref D) cv = some b ∧ Q (.bl b) H) := by
  intro pins s σ H xs us Q I r ⟨c, cv, b, e0, hd, hcv, e, q⟩
  subst e0
  match us, r with
  | [_, _], .cons rx (.cons rt .nil) =>
    cases rx; cases hcv _ rt
    obtain ⟨hget, _⟩ := I.pin (a, oe) (List.mem_append.mpr (.inl List.mem_cons_self))
    obtain ⟨vs, hv⟩ := hf
    have J : ∃ dd, PySem.W.InstAt s.heap a oe D dd := by
      cases d with
      | none => exact ⟨none, hget, hz.1, by unfold PySem.W.notCls; rw [hv] <;> rfl, by rw [hz.2]; trivial⟩
      | some dd =>
        obtain ⟨fs, hx⟩ := hd dd rfl
        have ok : ObjOk X.prog X.w H s.heap dd (.xd fs) := I.hok dd _ hx
        obtain ⟨mA, hns, hr⟩ := ok
        obtain ⟨od, ho, _⟩ := lookIn_ns hns
        exact ⟨some od, hget, hz.1, by unfold PySem.W.notCls; rw [hv] <;> rfl, by rw [hz.2]; exact ho⟩
    exact PySem.W.kia_one (kit_told C) I.kIn J e (fun z => nomatch z) fun tk => ⟨.bl b, H, I.kept (t' := tk) fun _ _ z => z, rfl, q⟩
end
end Mn
namespace Mn
open PySem L2
def gSeq : List Tg → List D → Ev → Option Ev
  | [], [], e => some e
  | t :: ts, d :: ds, e => match t d e with
    | some e1 => gSeq ts ds e1
    | none => none
  | _, _, _ => none
def gTm (ts : List Tg) : Tg := fun d e => match d with
  | .tup ds => gSeq ts ds e
  | _ => none
section
variable {X : Cx} {cv : Nat → Value} {fn : Nat → Str} {xs : Xs} {W : WX} {pos : Pos}
def PGs_ (T : Fx) (is : List Nat) (ts : List Tg) : TGs := fun vs σ H Q => ∃ m h ds e e1, RH T m h H ∧ RE T m h.length H e σ ∧ RDs T.K m h.length H ds vs ∧ gSeq ts ds e = some e1 ∧ ∀ σ', RE T m h.length H e1 σ' → But is σ σ' → Q σ' H
theorem But.trans {is js : List Nat} {σ σ1 σ2 : L2.St} (a : But is σ σ1) (b : But js σ1 σ2) : But (is ++ js) σ σ2 :=
  ⟨b.1.trans a.1, fun j hj => by rw [List.mem_append, not_or] at hj; exact (b.2 j hj.2).trans (a.2 j hj.1)⟩
theorem gSeq_len : ∀ {ts : List Tg} {ds : List D} {e e1 : Ev}, gSeq ts ds e = some e1 → ds.length = ts.length
  | [], [], _, _, _ => rfl
  | t :: ts, d :: ds, e, e1, h => by
    unfold gSeq at h
    split at h
    · exact congrArg Nat.succ (gSeq_len h)
    · cases h
  | [], _ :: _, _, _, h => by cases h
  | _ :: _, [], _, _, h => by cases h
def isTg : Expr → Bool
  | .Name .. | .Tuple .. => true
  | _ => false
inductive TgOk (X : Cx) (T : Fx) : List Expr → List Nat → List Tg → Prop
  | nil : TgOk X T [] [] []
  | cons {e : Expr} {es : List Expr} {is js : List Nat} {t : Tg} {ts : List Tg} : isTg e = true → PG X e (PG_ T is t) → TgOk X T es js ts → TgOk X T (e :: es) (is ++ js) (t :: ts)
theorem tgs_ok {T : Fx} {es : List Expr} {is : List Nat} {ts : List Tg} (k : TgOk X T es is ts) : PGs X es (PGs_ T is ts) ∧ (assignEach es X.env).length = ts.length ∧ (assignEach es X.env).findIdx? (·.1) = none := by
  induction k with
  | nil =>
    refine ⟨⟨fun pins s σ H vs us Q I r q => (pgs_nil (X := X)).run pins s σ H vs us Q I r ?_⟩, rfl, rfl⟩
    obtain ⟨m, h, ds, e, e1, rh, re, rd, eg, q⟩ := q
    cases rd with
    | nil =>
      cases eg
      exact ⟨rfl, q σ re ⟨rfl, fun _ _ => rfl⟩⟩
    | cons _ _ => cases eg
  | @cons e0 es is js t ts hn hg k ih =>
    obtain ⟨i1, i2, i3⟩ := ih
    have c1 : (assignEach (e0 :: es) X.env).map (·.2) = assign e0 X.env :: (assignEach es X.env).map (·.2) := by
      cases e0 <;> first | (cases hn; done) | rfl
    refine ⟨⟨fun pins s σ H vs us Q I r q => (pgs_cons hg i1 c1).run pins s σ H vs us Q I r ?_⟩, ?_, ?_⟩
    · obtain ⟨m, h, ds, e, e1, rh, re, rd, eg, q⟩ := q
      cases rd with
      | nil => cases eg
      | @cons d v ds vs a b =>
        unfold gSeq at eg
        split at eg
        · rename_i e2 h2
          exact ⟨v, vs, rfl, m, h, d, e, e2, rh, re, a, h2, fun σ1 re1 b1 => ⟨m, h, ds, e2, e1, rh, re1, b, eg, fun σ2 re2 b2 => q σ2 re2 (b1.trans b2)⟩⟩
        · cases eg
    · have : (assignEach (e0 :: es) X.env).length = (assignEach es X.env).length + 1 := by
        cases e0 <;> first | (cases hn; done) | rfl
      rw [this, i2]
      rfl
    · have : ∃ b, assignEach (e0 :: es) X.env = (false, b) :: assignEach es X.env := by
        cases e0 <;> first | (cases hn; done) | exact ⟨_, rfl⟩
      obtain ⟨b, eb⟩ := this
      rw [eb, List.findIdx?_cons, i3]
      rfl
theorem g_tm {es : List Expr} {is : List Nat} {ts : List Tg} {k : Nat} (hc : X.calm = true) (ho : TgOk X (FX X cv fn xs) es is ts) : PG X (.Tuple es k pos) (PG_ (FX X cv fn xs) is (gTm ts)) := by
  obtain ⟨h1, h2, h3⟩ := tgs_ok ho
  refine pgImp (pg_tup hc h1 h2 h3) fun v σ H Q q => ?_
  obtain ⟨m, h, d, e, e1, rh, re, rd, eg, k⟩ := q
  cases d with
  | tup ds =>
    cases rd with
    | tup sq r => exact ⟨_, _, rfl, sq, by rw [← r.length]; exact gSeq_len eg, m, h, ds, e, e1, rh, re, r, eg, k⟩
  | _ => cases eg
end
end Mn
namespace Mn
open PySem PySem.Spec PyProof.Rows L2
abbrev kAt (ks : List Key) (i : Nat) : Key := ks.getD i (.inl 0)
def hasK (ks : List Key) (i : Nat) (k : Key) : Bool := (ks.take i).any fun j => decide (k = j)
def cntF (ks : List Key) : Nat → Nat
  | 0 => 0
  | i + 1 => if hasK ks i (kAt ks i) = true then cntF ks i else cntF ks i + 1
theorem cntF_le (ks : List Key) : ∀ i, cntF ks i ≤ i
  | 0 => Nat.le_refl _
  | i + 1 => by
    have := cntF_le ks i
    unfold cntF
    split <;> omega
theorem hasK_succ {ks : List Key} {i : Nat} (hi : i < ks.length) (k : Key) : hasK ks (i + 1) k = (hasK ks i k || decide (k = kAt ks i)) := by
  unfold hasK
  rw [List.take_succ_eq_append_getElem hi, List.any_append, List.any_cons, List.any_nil, Bool.or_false]
  congr 1
  have e : kAt ks i = ks[i] := by simp [kAt, List.getD, hi]
  rw [e]
section
variable {P : Program} {w : World} {A : Around} {R : Result → Shared → Prop} {it D : Addr} {fp wr : List Addr} {G : Array GenState → Array GenState → Prop} {N : Nat} {Pv : Nat → Value → Prop} {St : Nat → Shared → Prop} {ks : List Key}
def Sk (P : Program) (w : World) (D : Addr) (ks : List Key) (i : Nat) (h : Heap) : Prop := h.SetOf (mixKind P w) D (hasK ks i) (cntF ks i)
theorem Sk.on {i : Nat} {h h' : Heap} (q : Sk P w D ks i h) (k : ∀ o, h.get? D = some o → h'.get? D = some o) : Sk P w D ks i h' := by
  obtain ⟨o, es, ep, t, ho, r⟩ := q
  exact ⟨o, es, ep, t, k o ho, r⟩
theorem upK (W : WalksS P w A.in1 it fp wr G N Pv St) (hD : D ∉ fp) (hl : ks.length = N) (hN : N < 4000) (hv : ∀ i v, Pv i v → RelV (kV (kAt ks i)) v) (m : Nat) :
    ∀ (i : Nat) (s : Shared), N - i = m → i ≤ N → St i s → Sk P w D ks i s.heap → (∀ s', Moved (D :: wr) G s s' → Sk P w D ks N s'.heap → R (.ok (.ret .none)) s') →
      codeAny (model P w) A (.builtin "set.update.loop" ⟨[.ref D, .ref it], []⟩) R s := by
  have dw : D ∉ wr := fun z => hD (W.sub _ z)
  have up : ∀ b ∈ wr, b ∈ D :: wr := fun b z => .tail _ z
  induction m with
  | zero =>
    intro i s em le st q fin
    have e : i = N := by omega
    subst e
    refine codeAny_builtin F.entry_set_update_loop ?_
    rw [Around.under_plainId F.plain_set_update_loop _]
    show wpAny _ A.in1 (pyNext (.ref it) >>= _) _ _ s
    refine wpAny_bind (W.done s _ _ st fun s1 mv => ?_)
    show wpAny _ A.in1 (ret Value.none) _ _ s1
    exact wpAny_pure (fin s1 (mv.mono up) (q.on fun o z => mv.heap D o dw z))
  | succ m ih =>
    intro i s em le st q fin
    have lt : i < N := by omega
    refine codeAny_builtin F.entry_set_update_loop ?_
    rw [Around.under_plainId F.plain_set_update_loop _]
    show wpAny _ A.in1 (pyNext (.ref it) >>= _) _ _ s
    refine wpAny_bind (W.item i s _ _ lt st fun v s1 pv st1 mv => ?_)
    have rv := hv i v pv
    have q1 : Sk P w D ks i s1.heap := q.on fun o z => mv.heap D o dw z
    show wpAny _ A.in1 (holding [v] (setAdd D v) >>= _) _ _ s1
    refine wpAny_bind (wpAny_holding ?_)
    unfold setAdd
    refine wpAny_holding ?_
    refine wpAny_bind ((mixKind P w).pyHash (kV_is rv) ?_)
    have room : cntF ks i + 1 < scanBound := by have := cntF_le ks i; unfold scanBound; omega
    refine wpAny_setAddHashed_of (knd := mixKind P w) (s := { s1 with toks := s1.toks + 1 }) (kV_is rv) (key_scan rv) q1 room fun h2 sb q2 => ?_
    have q3 : Sk P w D ks (i + 1) h2 := by
      have ef : hasK ks (i + 1) = fun k' => hasK ks i k' || decide (k' = kAt ks i) := funext fun k => hasK_succ (by omega) k
      unfold Sk
      rw [ef]
      show h2.SetOf (mixKind P w) D _ (if hasK ks i (kAt ks i) = true then cntF ks i else cntF ks i + 1)
      exact q2
    refine wpAny_pure ⟨plainId_quiet F.plain_set_update_loop _, ih (i + 1) _ (by omega) lt (W.frame _ s1 _ _ st1 (Nat.le_succ _) fun b z o e => ?_) q3 fun s3 mv3 q4 => ?_⟩
    · rw [sb.2 b (fun z2 => hD (z2 ▸ z))]; exact e
    · refine fin s3 (Moved.trans W.gtrans ((mv.mono up).then_heap (Nat.le_succ _) fun b o z e => ?_) mv3) q4
      rw [sb.2 b (fun z2 => z (by rw [z2]; exact List.mem_cons_self ..))]; exact e
end
section
variable {P : Program} {w : World} {A : Around} {E : Value → Shared → Prop} {s : Shared}
def vKeys (ks : List Key) (us : List Value) : Prop := Vals (ks.map kV) us
theorem vKeys.get {ks : List Key} {us : List Value} (r : vKeys ks us) {i : Nat} {v : Value} (h : us[i]? = some v) : RelV (kV (kAt ks i)) v := by
  have hi : i < us.length := (List.getElem?_eq_some_iff.mp h).1
  have r0 : Vals (ks.map kV) us := r
  have hl : us.length = ks.length := by rw [← r0.length, List.length_map]
  obtain ⟨w, hw, rw'⟩ := Vals.get r0 (i := i) (x := kV (kAt ks i)) (by simp [kAt, List.getD, show i < ks.length by omega])
  rw [h] at hw
  cases hw
  exact rw'
abbrev e0 (led : Bool) : Obj := { cls := .type "set", dict := none, data := .set #[] 0 (.fresh 0 0 led) }
set_option maxHeartbeats 3200000 in
theorem mkSetK {l : Addr} {us : Array Value} {ks : List Key} {Q : Value → Shared → Prop} (hh : A.handled = none) (hl : s.heap.IsList l us) (hv : vKeys ks us.toList) (h4 : ks.length < 4000)
    (q : ∀ (h2 : Heap) (tk : Nat), Sk P w s.heap.objs.size ks ks.length h2 → (∀ b o, b < s.heap.objs.size → s.heap.get? b = some o → h2.get? b = some o) → Q (.ref s.heap.objs.size) { s with heap := h2, toks := tk }) :
    wpAny (model P w) A (call (.type "set") [.ref l]) Q E s := by
  have hul : us.size = ks.length := by rw [← Array.length_toList, ← hv.length, List.length_map]
  obtain ⟨c, tl, mro0⟩ := F.called_set.mro
  have made0 := F.called_set.made
  have sub0 := F.called_set.sub
  refine wpAny_call (codeAny_of_tree ?_)
  show wpAny _ _ (callAny (.type "set") _) _ _ _
  refine wpAny_pure ⟨Code.quiet_builtin _ (by decide +kernel), codeAny_builtin F.entry_type_call ?_⟩
  rw [Around.under_plain (weight_type_call_type "set" [.ref l] []) rfl]
  have nt0 := F.called_set.notType
  have cc0 := F.called_set.canCreate
  have tc0 := F.typeCall_set_1 (.ref l)
  repeat (any_goals (first | assumption | wp_step))
  refine codeAny_mono (code_set_new_1 (.ref l) (E := E) (Q₁ := fun x s1 => ∃ led, x = .ref s.heap.objs.size ∧ s1 = { s with heap := s.heap.push (e0 led) }) fun led => ⟨led, rfl, rfl⟩) fun r1 s1 g1 => ?_
  cases r1 with
  | error e => exact g1
  | ok fl1 =>
    cases fl1 with
    | ret x =>
      obtain ⟨led, rfl, rfl⟩ := g1
      have at0 : (s.heap.push (e0 led)).get? s.heap.objs.size = some (e0 led) := Heap.get?_push_size _ rfl
      have ty0 : Shared.TypeIs { s with heap := s.heap.push (e0 led) } (.ref s.heap.objs.size) "set" := ⟨_, at0, rfl⟩
      have lk0 := F.called_set.init.lookup
      have bi0 := F.called_set.init.bind (.ref s.heap.objs.size)
      repeat (any_goals (first | assumption | wp_step))
      refine codeAny_mono (codeAny_call_builtin (R := wants (fun x s2 => x = .none ∧ ∃ h2 tk, s2 = { s with heap := h2, toks := tk } ∧ Sk P w s.heap.objs.size ks ks.length h2 ∧
        ∀ b o, b < s.heap.objs.size → s.heap.get? b = some o → h2.get? b = some o) E) F.called_set.init.plain F.entry_set_init (check_set_init_1 ty0 ?_)) fun r2 s2 g2 => ?_
      · obtain ⟨⟨lc, ld, ldt, lsl⟩, atl, cl0, nl, dl0⟩ := hl
        simp only at cl0 dl0
        subst cl0; subst dl0
        have atl2 : (s.heap.push (e0 led)).get? l = some { cls := .type "list", dict := ld, data := .seq us nl, slots := lsl } := Heap.get?_push_of_some _ atl
        have su1 := F.sub_list_set
        have su2 := F.sub_list_frozenset
        have nd0 : (Value.type "list" == Value.type "dict") = false := by decide
        have il0 : (s.heap.push (e0 led)).IsList l us := ⟨_, atl2, rfl, nl, rfl⟩
        unfold Builtin.«set.__init__» noKeywords Builtin.Frozenset.updateFrom
        generalize gpi : pyIter = PI
        wp_walk
        subst gpi
        refine wpAny_pyIter_list il0 ?_
        refine wpAny_bind (wpAny_runValue ?_)
        have ltl : l < s.heap.objs.size := Heap.lt_size atl
        have hh3 : A.in1.in1.in1.handled = none := by simp [hh]
        have sz0 : (s.heap.push (e0 led)).objs.size = s.heap.objs.size + 1 := Heap.size_push ..
        have n1 : l ≠ (s.heap.push (e0 led)).objs.size := fun z => Nat.ne_of_lt (Nat.lt_succ_of_lt ltl) (z.trans sz0)
        have n2 : s.heap.objs.size ∉ [(s.heap.push (e0 led)).objs.size, l] := fun z => by
          rcases List.mem_cons.mp z with z | z
          · exact Nat.ne_of_lt (Nat.lt_succ_self _) (z.trans sz0)
          · exact Nat.ne_of_gt ltl (List.mem_singleton.mp z)
        refine upK (ks := ks) (P := P) (w := w) ((Walks.list hh3 _ l n1 us).toS) n2 hul.symm (by omega) (fun i v pv => hv.get (by rw [Array.getElem?_toList]; exact pv)) (us.size - 0) 0 _ (by omega) (Nat.zero_le _) ⟨⟨_, Heap.get?_push_size _ rfl, rfl, rfl⟩, il0.push _⟩ ?start ?stop
        case start =>
          have g0 := Heap.get?_push_of_some { cls := .type "list_iterator", data := .fields #[.ref l, .int 0 0] } at0
          have ef : hasK ks 0 = fun _ => false := funext fun k => by
            unfold hasK
            rw [List.take_zero]
            rfl
          unfold Sk
          rw [ef]
          exact ⟨_, #[], 0, _, g0, ⟨rfl, rfl, rfl⟩, rfl, (fun x hx => by simp at hx), (fun x => by simp), by decide, by rfl, rfl⟩
        case stop =>
          intro s3 mv q3
          obtain ⟨h3, g3, d3, tk3, os3⟩ := s3
          have eg := mv.gens
          have ed := mv.drawn
          have eo := mv.os
          simp only at eg ed eo
          subst eg; subst ed; subst eo
          show wpAny _ _ _ _ _ _
          refine wpAny_pure ?_
          show wpAny _ _ (ret Value.none) _ _ _
          refine wpAny_pure ⟨rfl, h3, tk3, rfl, by rw [← hul]; exact q3, fun b o lb e => ?_⟩
          refine mv.heap b o (fun z => ?_) (Heap.get?_push_of_some _ (Heap.get?_push_of_some _ e))
          rcases List.mem_cons.mp z with z | z
          · exact Nat.ne_of_lt lb z
          · exact Nat.ne_of_lt (Nat.lt_succ_of_lt lb) ((List.mem_singleton.mp z).trans sz0)
      · cases r2 with
        | error e => exact g2
        | ok fl2 =>
          cases fl2 with
          | ret x =>
            obtain ⟨rfl, h2, tk, rfl, q2, k2⟩ := g2
            repeat (any_goals (first | assumption | wp_step))
            exact q _ _ q2 k2
          | _ => exact g2.elim
    | _ => exact g1.elim
end
section
variable {X : Cx}
def tSetK (K : PySem.W.Frag) (ta : TE) : TE := fun σ H Q => ta σ H fun x H1 => ∃ (l : Addr) (ks : List Key), x = .ref l ∧ SqL K H1 l (ks.map kV) ∧ ks.length < 4000 ∧ Q (.int (cntF ks ks.length : Nat)) H1
theorem pe_setK {a : Expr} {ta : TE} {p p2 q pos : Pos} (hc : X.calm = true) (g1 : Gl X "len") (m1 : X.mg "len" = none) (g2 : Gl X "set") (m2 : X.mg "set" = none) (ha : PE X a ta)
    (na : starEach [a] X.env = (false, eval a X.env) :: starEach [] X.env := by rfl) : PE X (.Call (.Name "len" p) [.Call (.Name "set" p2) [a] [] q] [] pos) (tSetK X.K ta) := by
  refine ⟨fun pins s σ H Q I h => ?_⟩
  refine Call_ (ld_blt I g1 m1 boot_len ?_)
  refine callWith_builtin1 (args_cons ?_ rfl) rfl rfl
  refine Call_ (ld_blt I g2 m2 boot_set ?_)
  refine callWith_type1 (args_cons (thn (ha.run pins s σ H _ I h) fun v s1 ⟨x, H1, I1, r1, q1⟩ => args_nil ?_) na) na rfl
  obtain ⟨l, ks, rfl, sq, h4, q1⟩ := q1
  cases r1
  obtain ⟨us, r, pl, hz⟩ := I1.list sq
  have r' : vKeys ks us.toArray.toList := by
    show Vals _ _
    simpa using r
  refine mkSetK (I1.ok.hd hc) pl.isList r' h4 fun h2 tk q2 k2 => args_nil ?_
  obtain ⟨o, es, ep, t, ho, hex, hd, _, _, _, hf, hn⟩ := q2
  have I2 : Inv X pins σ H1 { s1 with heap := h2, toks := tk } := I1.kept fun b o e => k2 b o (Heap.lt_size e) e
  have le := cntF_le ks ks.length
  exact call_len_set ho hex hd hf (by rw [hn]; omega) ⟨.int (cntF ks ks.length : Nat), H1, I2.tok _, ⟨_, by rw [hn]⟩, q1⟩
end
def dKey : D → Option Key
  | .int i => some (.inl i)
  | .str x => some (.inr x)
  | _ => none
def dKeys : List D → Option (List Key)
  | [] => some []
  | d :: ds => match dKey d, dKeys ds with
    | some k, some ks => some (k :: ks)
    | _, _ => none
theorem dKeys_rd {K : PySem.W.Frag} {m : Nat → Addr} {N : Nat} {H : Hp} : ∀ {ds : List D} {vs : List V} {ks : List Key}, RDs K m N H ds vs → dKeys ds = some ks → vs = ks.map kV
  | _, _, _, .nil, h => by cases h; rfl
  | d :: ds, _, ks, .cons a r, h => by
    unfold dKeys at h
    split at h
    · rename_i k ks' h1 h2
      cases h
      rw [List.map_cons, ← dKeys_rd r h2]
      congr 1
      cases d with
      | int i => cases h1; cases a; rfl
      | str x => cases h1; cases a; rfl
      | _ => cases h1
    · cases h
def fLenS : FD := fun ds h => match ds with
  | [.ref n] => match lstAt h n with
    | some xs => match dKeys xs with
      | some ks => if ks.length < 4000 then .ok (.int (cntF ks ks.length : Nat)) h else .stuck
      | none => .stuck
    | none => .stuck
  | _ => .stuck
end Mn
namespace Mn
open PySem PySem.Spec PyProof.Rows L2
abbrev Cl := Value × Option Nat × (Addr → Value → Option Addr → TS)
def offE : Option Nat → Ends → Ends
  | none, Ed => Ed
  | some i, Ed => ⟨fun τ L => Ed.nx (τ.set i none) L, Ed.rt, fun τ L => Ed.bk (τ.set i none) L, fun τ L => Ed.ct (τ.set i none) L⟩
def onS : Option Nat → Addr → L2.St → L2.St
  | none, _, τ => τ
  | some i, ad, τ => τ.set i (some (.ref ad))
def wMs (K : PySem.W.Frag) (Wout : WX) (Ed : Ends) : List Cl → WX
  | [] => Wout
  | (c, sl, ts) :: rs => fun ty dx τ L => ∃ bv, PySem.W.exmOne K ty c = some bv ∧ (bv = true → ∀ ad, L ad = none → ts ad ty dx (offE sl Ed) (onS sl ad τ) L) ∧ (bv = false → wMs K Wout Ed rs ty dx τ L)
abbrev SuOk (X : Cx) (b₀ : Stmt) (suite : List Stmt) (ts : Addr → Value → Option Addr → TS) : Prop :=
  ∀ (ad : Addr) (oc : Obj) (ty : Value) (dx : Option Addr) (pn : List (Addr × Obj)), L2N.Zn ty dx oc → (∃ vs, oc.data = .fields vs) → PSs (X.suite ad ((ad, oc) :: pn)) (b₀ :: suite) (ts ad ty dx)
inductive HdsM (X : Cx) : List ExceptHandler → List Cl → Prop
  | nil : HdsM X [] []
  | one {x : Str} {c : Value} {ts : Addr → Value → Option Addr → TS} {b₀ : Stmt} {suite : List Stmt} {np pos' : Pos} {hds : List ExceptHandler} {l : List Cl} (hc : Names X x c) (hsu : SuOk X b₀ suite ts) (r : HdsM X hds l) :
      HdsM X (.ExceptHandler (some (.Name x np)) none (b₀ :: suite) pos' :: hds) ((c, none, ts) :: l)
  | as_ {x n : Str} {i : Nat} {c : Value} {ts : Addr → Value → Option Addr → TS} {b₀ : Stmt} {suite : List Stmt} {np pos' : Pos} {hds : List ExceptHandler} {l : List Cl} (hi : X.N[i]? = some n) (hln : X.env.kindOf n = some .local) (hc : Names X x c) (hsu : SuOk X b₀ suite ts) (r : HdsM X hds l) :
      HdsM X (.ExceptHandler (some (.Name x np)) (some n) (b₀ :: suite) pos' :: hds) ((c, some i, ts) :: l)
section
variable {X : Cx} {body : List Stmt} {h₀ : ExceptHandler} {hds : List ExceptHandler} {l : List Cl} {pos : Pos} {tb : WX → TS} {Wout : WX}
theorem ps_tries (hs : X.stack = X.env :: X.outer) (hf : X.env.frame = some X.env.locals) (hN : X.N.Nodup) (tk : L2N.Takes X Wout)
    (hb : ∀ (W : WX) (pn : List (Addr × Obj)) (xw : Value → Shared → Prop), L2N.Takes (X.tr pn xw) W → PassesOwn (model X.prog X.w) X.A X.env xw → PSs (X.tr pn xw) body (tb W))
    (hh : HdsM X (h₀ :: hds) l) : PS X (.Try body (h₀ :: hds) [] [] pos) (fun Ed τ L => tb (wMs X.K Wout Ed l) Ed τ L) := by
  refine ⟨fun po t0 τ L Ed J0 q0 => ?_⟩
  have okk := J0.ok
  have wfr : X.A.frames = some (X.env :: X.outer) := by rw [okk.frames, hs]
  refine wpAny_Try_except ?_
  refine wpAny_mono ((hb (wMs X.K Wout Ed l) (X.pn ++ po) (fun er t₁ => wpAny (model X.prog X.w) X.A (noteFrame er X.env) (fun _ t₂ => wpAny (model X.prog X.w) X.A (setFlight er none) (fun _ t₃ =>
    wpAny (model X.prog X.w) X.A (handleBy er X.env (h₀ :: hds)) (SP X po Ed) X.xe t₃) X.xe t₂) X.xe t₁) (fun uu tz got => ?_) PassesOwn.looking).run [] t0 τ L Ed (J0.toTry _) q0) (fun fo t1 spq => ?_) (fun er t1 ex => ex)
  · -- the catch
    obtain ⟨ad, Bw, ti, pz, τz, Lz, ty, dx, rfl, Jz, nw, ua, sk, nn, ow, eg, ww⟩ := got
    have J1 : Inv X po τz Lz ti := Jz.ofTry okk
    have skz : Sky Bw (X.env :: X.outer) ad (L2N.Zn ty dx) X.env.locals tz.heap := by rw [← hs]; exact sk
    show wpAny (model X.prog X.w) X.A (noteFrame (.ref ad) X.env) _ _ _
    refine L2N.Sky.land L2N.Zn.steady wfr hf skz fun k3 g3 u3 => ?_
    have Jc : Inv X po τz Lz { tz with heap := k3 } := J1.landed nw g3.1 (ua.trans u3) ow eg
    obtain ⟨oc, vc, ec, zc, dc⟩ := g3.there
    have noF : ∀ {q0 : Heap} {o : Obj} {vx : Array Value}, q0.FunFrames Bw (X.env :: X.outer) → q0.get? ad = some o → o.data = .fields vx → ad ∉ frs (X.env :: X.outer) := fun {q0 o vx} ff er dd mm => by
      obtain ⟨_, o', e', hnf⟩ := ff.mem mm
      rw [er] at e'; cases e'
      exact hnf _ dd
    have nof := noF g3.2.2.1 ec dc
    have n1 : ad ≠ X.env.locals := fun z => nof (List.mem_filterMap.mpr ⟨X.env, List.mem_cons_self, by rw [hf, z]⟩)
    have n2 : ad ∉ X.fs := fun mm => by
      obtain ⟨er, ex, qq⟩ := List.mem_filterMap.mp mm
      exact nof (List.mem_filterMap.mpr ⟨er, List.mem_cons_of_mem _ ex, qq⟩)
    have Sc := Jc.suite ec dc nn n1 n2
    have run1 : ∀ {cs' : List ExceptHandler} {ls' : List Cl}, HdsM X cs' ls' → wMs X.K Wout Ed ls' ty dx τz Lz →
        wpAny (model X.prog X.w) X.A (handleBy (.ref ad) X.env cs') (SP X po Ed) X.xe { tz with heap := k3 } := by
      intro cs' ls' kk
      induction kk with
      | nil =>
        intro ww
        refine wpAny_handleBy_nil ?_
        obtain ⟨m1, m2, m3, ox, vx, Tx, oTx, tsx, ex, zx, dxx, f1, rr1⟩ := id g3
        unfold PySem.passOn
        refine wpAny_bind (wpAny_field ex dxx f1 ?_)
        rw [if_neg (show ¬ ((Value.ref Tx == Value.none) = true) from by simp)]
        have out1 : wpAny (model X.prog X.w) X.A (setFlight (.ref ad) X.env.frame) (fun _ t4 => wpAny (model X.prog X.w) X.A (throw (.ref ad) : Sem Flow) (SP X po Ed) X.xe t4) X.xe { tz with heap := k3 } := by
          rw [hf]
          refine HandSPX.setFlight_upZ g3 fun k4 v4 u4 => wpAny_throw (tk _ _ ?_)
          exact ⟨ad, Bw, ti, po, τz, Lz, ty, dx, rfl, J1, nw, (ua.trans u3).trans u4, .inr (.inr (by rw [hs]; exact v4)), nn, ow, eg, ww⟩
        first
          | exact wpAny_bind (wpAny_pure (wpAny_bind out1))
          | exact wpAny_bind out1
      | @one x c ts b₀ suite np pos' hds2 l2 hc hsu rs ih =>
        intro ww
        obtain ⟨bv, em1, yes1, no1⟩ := ww
        refine wpAny_handleBy_cons (codeAny_handlers_test ?_) (by intro qq; cases qq)
        have lt1 : PySem.W.Looks (model X.prog X.w) k3 (typeOf (.ref ad)) ty := fun Ax Qz Ez t0 kx qq => wpAny_typeOf_ref (kx _ _ ec) (by rw [zc.1]; exact qq)
        have lm1 := PySem.W.exm_one (M := model X.prog X.w) (Jc.kIn) lt1 em1
        have tst : ∀ {Qz : Value → Shared → Prop} {Ez : Value → Shared → Prop}, Qz c { tz with heap := k3 } → wpAny (model X.prog X.w) (X.A.mark (some (.ref ad))) (eval (.Name x np) X.env) Qz Ez { tz with heap := k3 } := fun {Qz Ez} qq => by
          obtain ⟨gg, dbg, mm | ⟨mm, vv, nnn⟩⟩ := hc
          · exact ld_glob (X := X.suite ad ((ad, oc) :: (X.pn ++ po))) Sc gg mm qq dbg
          · exact ld_blt (X := X.suite ad ((ad, oc) :: (X.pn ++ po))) Sc gg mm vv qq nnn dbg
        refine tst (lm1.here ?_)
        cases bv with
        | true =>
          refine codeAny_handlers_suite ?_
          refine HandSPX.lands_againZ g3 fun k4 g4 u4 => ?_
          have Jd : Inv X po τz Lz { tz with heap := k4 } := J1.landed nw g4.1 ((ua.trans u3).trans u4) ow eg
          obtain ⟨od, vd, ed, zd, dd4⟩ := g4.there
          have Sd := Jd.suite ed dd4 nn n1 n2
          refine wpAny_mono ((hsu ad od ty dx (X.pn ++ po) zd ⟨_, dd4⟩).run [] _ _ Lz _ Sd (yes1 rfl ad nn)) (fun fo t6 spq => ?_) (fun _ _ z => False.elim z)
          cases fo with
          | next =>
            obtain ⟨τ6, L6, Se, qe⟩ := spq
            exact ⟨_, _, Se.unsuite okk, qe⟩
          | brk =>
            obtain ⟨τ6, L6, Se, qe⟩ := spq
            exact ⟨_, _, Se.unsuite okk, qe⟩
          | cont =>
            obtain ⟨τ6, L6, Se, qe⟩ := spq
            exact ⟨_, _, Se.unsuite okk, qe⟩
          | ret uu =>
            obtain ⟨ve, τ6, L6, Se, re6, qe⟩ := spq
            exact ⟨_, _, _, Se.unsuite okk, re6, qe⟩
        | false =>
          show wpAny _ X.A (handleBy (.ref ad) X.env hds2) _ _ _
          exact ih (no1 rfl)
      | @as_ x n i c ts b₀ suite np pos' hds2 l2 hi hln hc hsu rs ih =>
        intro ww
        obtain ⟨bv, em1, yes1, no1⟩ := ww
        refine wpAny_handleBy_cons (codeAny_handlers_test ?_) (by intro qq; cases qq)
        have lt1 : PySem.W.Looks (model X.prog X.w) k3 (typeOf (.ref ad)) ty := fun Ax Qz Ez t0 kx qq => wpAny_typeOf_ref (kx _ _ ec) (by rw [zc.1]; exact qq)
        have lm1 := PySem.W.exm_one (M := model X.prog X.w) (Jc.kIn) lt1 em1
        have tst : ∀ {Qz : Value → Shared → Prop} {Ez : Value → Shared → Prop}, Qz c { tz with heap := k3 } → wpAny (model X.prog X.w) (X.A.mark (some (.ref ad))) (eval (.Name x np) X.env) Qz Ez { tz with heap := k3 } := fun {Qz Ez} qq => by
          obtain ⟨gg, dbg, mm | ⟨mm, vv, nnn⟩⟩ := hc
          · exact ld_glob (X := X.suite ad ((ad, oc) :: (X.pn ++ po))) Sc gg mm qq dbg
          · exact ld_blt (X := X.suite ad ((ad, oc) :: (X.pn ++ po))) Sc gg mm vv qq nnn dbg
        refine tst (lm1.here ?_)
        cases bv with
        | true =>
          refine codeAny_handlers_suite_as ?_
          refine HandSPX.lands_againZ g3 fun k4 g4 u4 => ?_
          have Jd : Inv X po τz Lz { tz with heap := k4 } := J1.landed nw g4.1 ((ua.trans u3).trans u4) ow eg
          obtain ⟨od, vd, ed, zd, dd4⟩ := g4.there
          have Sd := Jd.suite ed dd4 nn n1 n2
          refine store_ok (X := X.suite ad ((ad, od) :: (X.pn ++ po))) (v := .ref ad) Sd hN hi (.inl hln) rfl (fun s5 S5 => ?_) (.inr hln)
          refine wpAny_mono ((hsu ad od ty dx (X.pn ++ po) zd ⟨_, dd4⟩).run [] s5 _ Lz _ S5 (yes1 rfl ad nn)) (fun fo t6 spq => ?_) (fun _ _ z => False.elim z)
          have end_ : ∀ {τ6 : L2.St} {L6 : Hp} {Qz : Shared → Prop}, Inv (X.suite ad ((ad, od) :: (X.pn ++ po))) [] τ6 L6 t6 → (∀ s7, Inv X po (τ6.set i none) L6 s7 → Qz s7) →
              wpAny (model X.prog X.w) X.A (do bindName X.env n .none; unbindBehindTheSuite X.env n pos') (fun _ s7 => Qz s7) X.xe t6 := fun {τ6 L6 Qz} Se hq => gone_ok (Se.unsuite okk) hN hi hln hq
          cases fo with
          | next =>
            obtain ⟨τ6, L6, Se, qe⟩ := spq
            exact end_ Se fun s7 J7 => ⟨_, _, J7, qe⟩
          | brk =>
            obtain ⟨τ6, L6, Se, qe⟩ := spq
            exact end_ Se fun s7 J7 => ⟨_, _, J7, qe⟩
          | cont =>
            obtain ⟨τ6, L6, Se, qe⟩ := spq
            exact end_ Se fun s7 J7 => ⟨_, _, J7, qe⟩
          | ret uu =>
            obtain ⟨ve, τ6, L6, Se, re6, qe⟩ := spq
            exact end_ Se fun s7 J7 => ⟨_, _, _, J7, re6, qe⟩
        | false =>
          show wpAny _ X.A (handleBy (.ref ad) X.env hds2) _ _ _
          exact ih (no1 rfl)
    exact run1 hh ww
  · cases fo with
    | next =>
      obtain ⟨τz, Lz, Jz, qq⟩ := spq
      exact wpAny_execs_nil ⟨τz, Lz, Jz.ofTry okk, qq⟩
    | brk =>
      obtain ⟨τz, Lz, Jz, qq⟩ := spq
      exact ⟨τz, Lz, Jz.ofTry okk, qq⟩
    | cont =>
      obtain ⟨τz, Lz, Jz, qq⟩ := spq
      exact ⟨τz, Lz, Jz.ofTry okk, qq⟩
    | ret uu =>
      obtain ⟨v, τz, Lz, Jz, rs, qq⟩ := spq
      exact ⟨v, τz, Lz, Jz.ofTry okk, rs, qq⟩
end
end Mn
namespace Mn
open PySem L2
def tryGo (sub : Nat → Nat → Option Bool) : List Hd → Xc → Ev → Hh → RS
  | [], y, e, h => .exc y e h
  | hd :: r, y, e, h => match sub y.cls hd.cls with
    | some true => if slotOk e hd.slot = true then match hd.suite y (clr e hd.slot) h with
        | .go f e2 h2 => .go f (clr e2 hd.slot) h2
        | _ => .stuck
      else .stuck
    | some false => tryGo sub r y e h
    | none => .stuck
def sTryM (sub : Nat → Nat → Option Bool) (b : SD) (hds : List Hd) : SD := fun e h => match b e h with
  | .exc y e1 h1 => tryGo sub hds y e1 h1
  | r => r
section
variable {X : Cx} {g : G} {cv : Nat → Value} {fn : Nat → Str} {W : WX} {pos : Pos} {f : SD}
def tsOf (X : Cx) (cv : Nat → Value) (fn : Nat → Str) (hd : Hd) : Addr → Value → Option Addr → TS := match hd.slot with
  | none => fun _ _ _ D σ H => ∃ y : Xc, PS_ (FX X cv fn none) (fun _ _ _ _ => False) (hd.suite y) D σ H
  | some i => fun a cls d D σ H => ∃ y : Xc, cls = cv y.cls ∧ (y.fs = [] → d = none) ∧ PS_ (FX X cv fn (some (i, a, y, d))) (fun _ _ _ _ => False) (hd.suite y) D σ H
def clOf (X : Cx) (cv : Nat → Value) (fn : Nat → Str) (hd : Hd) : Cl := (cv hd.cls, hd.slot, tsOf X cv fn hd)
inductive HdD (X : Cx) (cv : Nat → Value) (fn : Nat → Str) : List ExceptHandler → List Hd → Prop
  | nil : HdD X cv fn [] []
  | one {x : Str} {b₀ : Stmt} {suite : List Stmt} {np pos' : Pos} {hs : List ExceptHandler} {hds : List Hd} {c : Nat} {fs : Xc → SD} (hc : Names X x (cv c))
      (hsu : ∀ (a : Addr) (oe : Obj) (x : Xc) (pn : List (Addr × Obj)), PSs (X.suite a ((a, oe) :: pn)) (b₀ :: suite) (PS_ (FX X cv fn none) (fun _ _ _ _ => False) (fs x))) (r : HdD X cv fn hs hds) :
      HdD X cv fn (.ExceptHandler (some (.Name x np)) none (b₀ :: suite) pos' :: hs) (⟨c, none, fs⟩ :: hds)
  | as_ {x n : Str} {i : Nat} {b₀ : Stmt} {suite : List Stmt} {np pos' : Pos} {hs : List ExceptHandler} {hds : List Hd} {c : Nat} {fs : Xc → SD} (hi : X.N[i]? = some n) (hln : X.env.kindOf n = some .local) (hc : Names X x (cv c))
      (hsu : ∀ (a : Addr) (oe : Obj) (x : Xc) (d : Option Addr) (pn : List (Addr × Obj)), L2N.Zn (cv x.cls) d oe → (∃ vs, oe.data = .fields vs) → (x.fs = [] → d = none) → PSs (X.suite a ((a, oe) :: pn)) (b₀ :: suite) (PS_ (FX X cv fn (some (i, a, x, d))) (fun _ _ _ _ => False) (fs x))) (r : HdD X cv fn hs hds) :
      HdD X cv fn (.ExceptHandler (some (.Name x np)) (some n) (b₀ :: suite) pos' :: hs) (⟨c, some i, fs⟩ :: hds)
theorem HdD.ok {hs : List ExceptHandler} {hds : List Hd} (k : HdD X cv fn hs hds) : HdsM X hs (hds.map (clOf X cv fn)) := by
  induction k with
  | nil => exact .nil
  | one hc hsu r ih => exact .one hc (fun a oe cls d pn hz hfl => ⟨fun pins s σ H D I ⟨y, q⟩ => (hsu a oe y pn).run pins s σ H D I q⟩) ih
  | as_ hi hln hc hsu r ih => exact .as_ hi hln hc (fun a oe cls d pn hz hfl => ⟨fun pins s σ H D I ⟨y, e1, e2, q⟩ => by
      subst e1
      exact (hsu a oe y d pn hz hfl e2).run pins s σ H D I q⟩) ih
theorem tries_w {sub : Nat → Nat → Option Bool} (hsub : ∀ c1 c2 b, sub c1 c2 = some b → PySem.W.exmOne X.K (cv c1) (cv c2) = some b) {D : Ends} {m : Nat → Addr} {h : Hh} {H : Hp} {y : Xc} {e1 : Ev} {h1 : Hh} : ∀ {hds : List Hd},
    PSo (FX X cv fn none) W D m h H (tryGo sub hds y e1 h1) → ∀ m1 H1 σ1 cls dd, Ge m h H m1 h1 H1 → RH (FX X cv fn none) m1 h1 H1 → RE (FX X cv fn none) m1 h1.length H1 e1 σ1 → RX (FX X cv fn none) m1 h1.length H1 y cls dd →
      wMs X.K W D (hds.map (clOf X cv fn)) cls dd σ1 H1
  | [], p => fun m1 H1 σ1 cls dd g1 rh1 re1 rx => p m1 H1 σ1 cls dd g1 rh1 re1 rx
  | hd :: hds, p => fun m1 H1 σ1 cls dd g1 rh1 re1 rx => by
    unfold tryGo at p
    cases qs : sub y.cls hd.cls with
    | none => rw [qs] at p; exact p.elim
    | some k =>
      rw [qs] at p
      obtain ⟨ec, rx'⟩ := rx
      refine ⟨k, by rw [ec]; exact hsub _ _ _ qs, fun ek ad had => ?_, fun ek => ?_⟩
      · subst ek
        simp only at p
        by_cases hok : slotOk e1 hd.slot = true
        case neg => rw [if_neg hok] at p; exact p.elim
        rw [if_pos hok] at p
        obtain ⟨c, sl, fs⟩ := hd
        have p1 := PSo.base p g1
        cases sl with
        | none =>
          refine ⟨y, m1, e1, h1, rh1, re1, ?_⟩
          show PSo (FX X cv fn none) (fun _ _ _ _ => False) D m1 h1 H1 (fs y e1 h1)
          cases qg : fs y e1 h1 with
          | stuck => simp only [clr, qg] at p1; exact p1.elim
          | exc x e2 h2 => simp only [clr, qg] at p1; exact p1.elim
          | go fl e2 h2 => simp only [clr, qg] at p1; exact p1.flow
        | some i =>
          have hi' : i < σ1.length := by
            rw [← re1.len]
            exact of_decide_eq_true hok
          refine ⟨y, ec, rx'.1, m1, e1.set i none, h1, rh1.ex, ⟨?_, fun j d hj => ?_, fun j b y' d' hj => ?_⟩, ?_⟩
          · show (e1.set i none).length = (σ1.set i _).length
            rw [List.length_set, List.length_set]; exact re1.len
          · show ∃ v, (σ1.set i _)[j]? = some (some v) ∧ _
            by_cases hij : i = j
            · subst hij
              by_cases hl : i < e1.length
              · rw [List.getElem?_set_self hl] at hj; cases hj
              · rw [List.getElem?_eq_none (by rw [List.length_set]; omega)] at hj; cases hj
            · rw [List.getElem?_set_ne hij] at hj ⊢
              exact re1.at_ j d hj
          · cases hj
            exact ⟨List.getElem?_set_self hi', rx'⟩
          · show PSo (FX X cv fn (some (i, ad, y, dd))) (fun _ _ _ _ => False) (offE (some i) D) m1 h1 H1 (fs y (e1.set i none) h1)
            cases qg : fs y (e1.set i none) h1 with
            | stuck => simp only [clr, qg] at p1; exact p1.elim
            | exc x e2 h2 => simp only [clr, qg] at p1; exact p1.elim
            | go fl e2 h2 =>
              simp only [clr, qg] at p1
              have back : ∀ {m' : Nat → Addr} {N : Nat} {H' : Hp} {σ' : L2.St}, RE (FX X cv fn (some (i, ad, y, dd))) m' N H' e2 σ' → RE (FX X cv fn none) m' N H' (e2.set i none) (σ'.set i none) := fun {m' N H' σ'} r =>
                RE.drop1 (T := FX X cv fn none) ⟨r.len, r.at_, fun _ _ _ _ z => by cases z⟩ i (fun _ _ z => by cases z) none
              cases fl with
              | nx => exact fun m2 H2 σ2 g2 rh2 re2 => p1 m2 H2 _ g2 rh2.ex (back re2)
              | bk => exact fun m2 H2 σ2 g2 rh2 re2 => p1 m2 H2 _ g2 rh2.ex (back re2)
              | ct => exact fun m2 H2 σ2 g2 rh2 re2 => p1 m2 H2 _ g2 rh2.ex (back re2)
              | rt d => exact fun m2 H2 v2 g2 rh2 re2 => p1 m2 H2 _ g2 rh2.ex re2
      · subst ek
        exact tries_w hsub p m1 H1 σ1 cls dd g1 rh1 re1 ⟨ec, rx'⟩
theorem s_tries {body : List Stmt} {h₀ : ExceptHandler} {hs : List ExceptHandler} {hds : List Hd} {sub : Nat → Nat → Option Bool} (hst : X.stack = X.env :: X.outer) (hf : X.env.frame = some X.env.locals) (hN : X.N.Nodup) (tk : L2N.Takes X W)
    (hsub : ∀ c1 c2 b, sub c1 c2 = some b → PySem.W.exmOne X.K (cv c1) (cv c2) = some b)
    (hb : ∀ (W : WX) (pn : List (Addr × Obj)) (xe : Value → Shared → Prop), L2N.Takes (X.tr pn xe) W → PassesOwn (model X.prog X.w) X.A X.env xe → PSs (X.tr pn xe) body (PS_ (FX X cv fn none) W f))
    (hh : HdD X cv fn (h₀ :: hs) hds) : PS X (.Try body (h₀ :: hs) [] [] pos) (PS_ (FX X cv fn none) W (sTryM sub f hds)) := by
  refine psImp (ps_tries hst hf hN tk hb hh.ok) fun D σ H q => ?_
  obtain ⟨m, e, h, rh, re, p⟩ := q
  refine ⟨m, e, h, rh, re, ?_⟩
  unfold sTryM at p
  cases qf : f e h with
  | stuck => rw [qf] at p; exact p
  | go fl e1 h1 => rw [qf] at p; exact p.flow
  | exc y e1 h1 =>
    rw [qf] at p
    intro m1 H1 σ1 cls dd g1 rh1 re1 rx
    exact tries_w hsub p m1 H1 σ1 cls dd g1 rh1 re1 rx
end
end Mn
namespace Mn
open PySem L2
def cstOf : Expr → Option D
  | .Constant .none _ _ => some .non
  | .Constant (.bool b) _ _ => some (.bl b)
  | .Constant (.int i) _ _ => some (.int i)
  | .Constant (.str s) _ _ => some (.str s)
  | _ => none
def cstV : D → V
  | .bl b => .bl b
  | .int i => .int i
  | .str s => .str s
  | _ => .non
def cstsOf : List Expr → Option (List D)
  | [] => some []
  | e :: es => match cstOf e, cstsOf es with
    | some d, some ds => some (d :: ds)
    | _, _ => none
def dspOf : List (Option Expr) → List Expr → Option (List (Str × List D))
  | [], [] => some []
  | some (.Constant (.str s) _ _) :: ks, .List es _ :: vs => match cstsOf es, dspOf ks vs with
    | some ds, some r => some ((s, ds) :: r)
    | _, _ => none
  | _, _ => none
def dDsp (kvs : List (Str × List D)) (i : Nat) (k : Int) : ED := fun e h => match e[i]? with
  | some (some (.tup ds)) => match L2.atI ds k with
    | some (.str s) => match kvs.lookup s with
      | some cs => .ok (.ref h.length) (h ++ [.lst cs])
      | none => .stuck
    | _ => .stuck
  | _ => .stuck
def dspOk (kvs : List (Str × List D)) : Bool := decide ((kvs.map (·.1)).Nodup) && !kvs.isEmpty && decide (kvs.length ≤ 15) && kvs.all fun kv => decide (kv.2.length ≤ szl)
section
variable {X : Cx} {cv : Nat → Value} {fn : Nat → Str} {xs : Xs} {W : WX} {pos : Pos}
theorem cst_rd {e : Expr} {d : D} (h : cstOf e = some d) {K : PySem.W.Frag} {m : Nat → Addr} {N : Nat} {H : Hp} : RD K m N H d (cstV d) := by
  unfold cstOf at h
  split at h <;> first
    | (cases h; done)
    | (cases h; first | exact .non | exact .bl _ | exact .int _ | exact .str _)
theorem cst_pe {e : Expr} {d : D} (h : cstOf e = some d) : PE X e (tC (cstV d)) := by
  unfold cstOf at h
  split at h <;> first
    | (cases h; done)
    | (cases h; first | exact pe_non | exact pe_bl | exact pe_int | exact pe_str)
def tVs (vs : List V) : TA := fun _ H Q => Q vs H
theorem csts_pa : ∀ {es : List Expr} {ds : List D}, cstsOf es = some ds → PA X es (tVs (ds.map cstV))
  | [], _, h => by
    cases h
    exact paImp pa_nil fun σ H Q q => q
  | e :: es, _, h => by
    unfold cstsOf at h
    split at h
    · rename_i d ds h1 h2
      cases h
      refine paImp (pa_cons (cst_pe h1) (csts_pa h2) ?_) fun σ H Q q => q
      unfold cstOf at h1
      split at h1 <;> first | rfl | cases h1
    · cases h
theorem csts_rds {K : PySem.W.Frag} {m : Nat → Addr} {N : Nat} {H : Hp} : ∀ {es : List Expr} {ds : List D}, cstsOf es = some ds → RDs K m N H ds (ds.map cstV)
  | [], _, h => by
    cases h
    exact .nil
  | e :: es, _, h => by
    unfold cstsOf at h
    split at h
    · rename_i d ds h1 h2
      cases h
      exact .cons (cst_rd h1) (csts_rds h2)
    · cases h
def dTr : List (Str × List D) → List (TE × TE)
  | [] => []
  | (s, ds) :: r => (tC (.str s), tLst (tVs (ds.map cstV))) :: dTr r
theorem dsp_pps : ∀ {ks : List (Option Expr)} {vs : List Expr} {kvs : List (Str × List D)}, dspOf ks vs = some kvs → PPs X pos ks vs (dTr kvs) ∧ ks.all (·.isSome) = true ∧ ks.length = vs.length ∧ kvs.length = ks.length ∧ ∀ kv ∈ kvs, ∀ (K : PySem.W.Frag) m N H, RDs K m N H kv.2 (kv.2.map cstV)
  | ks, vs, kvs, h => by
    unfold dspOf at h
    split at h
    · cases h
      exact ⟨pps_nil, rfl, rfl, rfl, fun _ w => by cases w⟩
    · rename_i s u p ks es q vs
      split at h
      · rename_i ds r h1 h2
        cases h
        obtain ⟨a, b, c, d, e⟩ := dsp_pps h2
        refine ⟨pps_cons pe_str (pe_lst (csts_pa h1)) a, ?_, congrArg Nat.succ c, congrArg Nat.succ d, fun kv w K m N H => ?_⟩
        · rw [List.all_cons, b]; rfl
        · rcases List.mem_cons.mp w with w | w
          · rw [w]; exact csts_rds h1
          · exact e kv w K m N H
      · cases h
    · cases h
def DFrm (H H2 : Hp) : Prop := ∀ a, H a ≠ none → H2 a = H a
theorem RH.frame {T : Fx} {m : Nat → Addr} {h : Hh} {H H' : Hp} (r : RH T m h H) (fr : DFrm H H') : Ge m h H m h H' ∧ RH T m h H' := by
  have tk : TK H H' := ⟨fun a xs e => (fr a (by rw [e]; exact fun z => by cases z)).trans e, fun a o xs e => (fr a (by rw [e]; exact fun z => by cases z)).trans e, fun a o xs e => (fr a (by rw [e]; exact fun z => by cases z)).trans e, fun a xs e => (fr a (by rw [e]; exact fun z => by cases z)).trans e, fun a lo hi e => (fr a (by rw [e]; exact fun z => by cases z)).trans e⟩
  have g : Ge m h H m h H' := ⟨fun _ _ => rfl, Nat.le_refl _, tk⟩
  refine ⟨g, ⟨fun n o hn => (r.obj n o hn).mono g fun f => ?_, r.inj⟩⟩
  obtain ⟨w, hw, _⟩ := (r.obj n o hn).there f
  exact fr _ (by rw [hw]; exact fun z => by cases z)
theorem DFrm.upd {H : Hp} {p : Addr} {u : HO} (h : H p = none) : DFrm H (L2.upd H p u) := fun a ha => upd_ne fun z => ha (by rw [z]; exact h)
theorem DFrm.trans {H H1 H2 : Hp} (a : DFrm H H1) (b : DFrm H1 H2) : DFrm H H2 := fun x hx => (b x (by rw [a x hx]; exact hx)).trans (a x hx)
inductive DLay (H H2 : Hp) : List (Str × List D) → List (Key × V) → Prop
  | nil : DLay H H2 [] []
  | cons {s : Str} {ds : List D} {a : Addr} {r : List (Str × List D)} {l : List (Key × V)} : H a = none → H2 a = some (.lst (ds.map cstV)) → DLay H H2 r l → DLay H H2 ((s, ds) :: r) ((.inr s, .ref a) :: l)
theorem DLay.base {H H1 H2 : Hp} (f : DFrm H H1) {r : List (Str × List D)} {l : List (Key × V)} (h : DLay H1 H2 r l) : DLay H H2 r l := by
  induction h with
  | nil => exact .nil
  | @cons s ds a r l h1 h2 _ ih =>
    refine .cons ?_ h2 ih
    refine Classical.byContradiction fun z => z ?_
    rw [← f a z]; exact h1
theorem DLay.len {H H2 : Hp} {r : List (Str × List D)} {l : List (Key × V)} (h : DLay H H2 r l) : l.length = r.length ∧ l.map (·.1) = (r.map (·.1)).map Sum.inr := by
  induction h with
  | nil => exact ⟨rfl, rfl⟩
  | cons _ _ _ ih => exact ⟨congrArg Nat.succ ih.1, congrArg (_ :: ·) ih.2⟩
theorem DLay.look {H H2 : Hp} {r : List (Str × List D)} {l : List (Key × V)} {s : Str} {cs : List D} (h : DLay H H2 r l) (e : r.lookup s = some cs) : ∃ a, valV l (Sum.inr s) = some (.ref a) ∧ H a = none ∧ H2 a = some (.lst (cs.map cstV)) := by
  induction h with
  | nil => cases e
  | @cons s' ds a r l h1 h2 _ ih =>
    rw [List.lookup_cons] at e
    by_cases z : s = s'
    · subst z
      rw [beq_self_eq_true] at e
      cases e
      exact ⟨a, valV_pos rfl, h1, h2⟩
    · have : (s == s') = false := by simpa using z
      rw [this] at e
      obtain ⟨b, i1, i2, i3⟩ := ih e
      exact ⟨b, (valV_neg fun w => z (Sum.inr.inj w).symm).trans i1, i2, i3⟩
theorem dsp_look_mem {s : Str} {cs : List D} : ∀ {r : List (Str × List D)}, r.lookup s = some cs → ∃ kv ∈ r, kv.2 = cs
  | [], e => by cases e
  | (s', ds) :: r, e => by
    rw [List.lookup_cons] at e
    cases z : s == s' with
    | true => rw [z] at e; cases e; exact ⟨_, List.mem_cons_self .., rfl⟩
    | false =>
      rw [z] at e
      obtain ⟨kv, h1, h2⟩ := dsp_look_mem e
      exact ⟨kv, List.mem_cons_of_mem _ h1, h2⟩
theorem dmerge_val (k : Key) : ∀ {more acc : List (Key × V)}, (more.map (·.1)).Nodup → valV (mergeK acc more) k = (match valV more k with
    | some v => some v
    | none => valV acc k)
  | [], _, _ => rfl
  | (k1, v1) :: r, acc, h => by
    rw [List.map_cons, List.nodup_cons] at h
    show valV (mergeK (putK acc k1 v1) r) k = _
    rw [dmerge_val k h.2]
    by_cases z : k1 = k
    · subst z
      rw [valV_pos (p := (k1, v1)) rfl]
      have hn : valV r k1 = none := by
        cases q : valV r k1 with
        | none => rfl
        | some v =>
          exfalso
          have := valV_any k1 r
          rw [q] at this
          obtain ⟨kv, h1, h2⟩ := List.any_eq_true.mp (show (r.any fun kv => decide (kv.1 = k1)) = true from this)
          exact h.1 (List.mem_map.mpr ⟨kv, h1, of_decide_eq_true h2⟩)
      rw [hn]
      show valV (putK acc k1 v1) k1 = _
      rw [valV_put, if_pos rfl]
    · rw [valV_neg (p := (k1, v1)) z]
      cases valV r k with
      | some v => rfl
      | none =>
        show valV (putK acc k1 v1) k = _
        rw [valV_put, if_neg fun w => z w.symm]
theorem dnodup_inr : ∀ {l : List Str}, l.Nodup → (l.map (Sum.inr : Str → Key)).Nodup
  | [], _ => List.nodup_nil
  | x :: l, h => by
    rw [List.nodup_cons] at h
    rw [List.map_cons, List.nodup_cons]
    refine ⟨fun z => ?_, dnodup_inr h.2⟩
    obtain ⟨y, h1, h2⟩ := List.mem_map.mp z
    rw [← Sum.inr.inj h2] at h
    exact h.1 h1
theorem dsp_pairs : ∀ (kvs : List (Str × List D)) (σ : L2.St) (H : Hp) (Q : List (V × V) → Hp → Prop), (∀ kv ∈ kvs, kv.2.length ≤ szl) → (∀ (l : List (Key × V)) (H2 : Hp), DFrm H H2 → DLay H H2 kvs l → Q (l.map fun kv => (kV kv.1, kv.2)) H2) → tPairs (dTr kvs) σ H Q
  | [], σ, H, Q, _, q => q [] H (fun _ _ => rfl) .nil
  | (s, ds) :: r, σ, H, Q, hz, q => by
    show (ds.map cstV).length ≤ sizeLine ∧ ∀ p, H p = none → tPairs (dTr r) σ (upd H p (.lst (ds.map cstV))) fun ps H3 => Q ((.str s, .ref p) :: ps) H3
    refine ⟨?_, fun p hp => ?_⟩
    · rw [List.length_map, sizeLine_eq]
      exact hz _ (List.mem_cons_self ..)
    · refine dsp_pairs r σ _ _ (fun kv h => hz kv (List.mem_cons_of_mem _ h)) fun l H2 f ly => ?_
      have f0 : DFrm H (upd H p (.lst (ds.map cstV))) := DFrm.upd hp
      refine q ((.inr s, .ref p) :: l) H2 (f0.trans f) (.cons hp ?_ (ly.base f0))
      rw [f p (by rw [upd_same]; exact fun z => by cases z)]
      exact upd_same
theorem s_dsp {ks : List (Option Expr)} {vals : List Expr} {kvs : List (Str × List D)} {i : Nat} {k : Int} {x : Str} {dp p1 p3 : Pos} {e2 : Expr} (hu : X.A.units + 65 < cLine) (hd : dspOf ks vals = some kvs) (ok : dspOk kvs = true) (he2 : PE X e2 (tC (.int k))) (hpl : PlainIx e2)
    (hN : X.N[i]? = some x) (hv : Vis X.env.scope x) (hdb : (x == ("__debug__" : Str)) = false) (hcd : (x == ("__classdict__" : Str)) = false) :
    PE X (.Subscript (.Dict ks vals dp) (.Subscript (.Name x p1) e2 p3) pos) (PE_ (FX X cv fn xs) W (dDsp kvs i k)) := by
  obtain ⟨h1, h2, h3, h4, h5⟩ := dsp_pps (X := X) (pos := dp) hd
  unfold dspOk at ok
  rw [Bool.and_eq_true, Bool.and_eq_true, Bool.and_eq_true] at ok
  obtain ⟨⟨⟨o1, o2⟩, o3⟩, o4⟩ := ok
  have o1 := of_decide_eq_true o1
  have o3 := of_decide_eq_true o3
  rw [List.all_eq_true] at o4
  have hne : ks ≠ [] := fun z => by
    rw [z] at h4
    cases kvs with
    | nil => cases o2
    | cons => cases h4
  refine peImp (pe_dget (by omega) (pe_disp h1 h2 h3 hne (by omega)) (pe_ix ix_tup (pe_var hN hv hdb hcd) he2 hpl) (fun _ _ => rfl)) fun σ H Q q => ?_
  obtain ⟨m, e, h, rh, re, p⟩ := q
  unfold dDsp at p
  split at p
  · rename_i ds ed
    split at p
    · rename_i s es
      split at p
      · rename_i cs ec
        obtain ⟨v, g1, g2⟩ := re.at_ i _ ed
        cases g2 with
        | tup sq r =>
          rename_i a vs
          obtain ⟨w, e1, rw'⟩ := atI_rd r es
          cases rw'
          show ∀ pp, H pp = none → tPairs (dTr kvs) σ (upd H pp (.dK [])) fun ps H2 => H2 pp = some (.dK []) ∧ _
          intro pp hpp
          refine dsp_pairs kvs σ _ _ (fun kv hk => of_decide_eq_true (o4 kv hk)) fun l H2 fr ly => ⟨?_, l, rfl, ?_, ?_⟩
          · rw [fr pp (by rw [upd_same]; exact fun z => by cases z)]
            exact upd_same
          · rw [ly.len.1]; exact o3
          · obtain ⟨b, b1, b2, b3⟩ := ly.look ec
            obtain ⟨kv, hk, ek⟩ := dsp_look_mem ec
            have f0 : DFrm H (upd H pp (.dK [])) := DFrm.upd hpp
            have hbp : b ≠ pp := fun z => by rw [z, upd_same] at b2; cases b2
            have hb0 : H b = none := by rw [upd_ne hbp] at b2; exact b2
            have rr : RDs X.K m h.length H cs (cs.map cstV) := by rw [← ek]; exact h5 kv hk X.K m _ H
            obtain ⟨m', g, rh', rd⟩ := rh.newL hb0 rr
            have f1 : DFrm (upd H b (.lst (cs.map cstV))) (upd H2 pp (.dK (mergeK [] l))) := fun y hy => by
              by_cases z : y = b
              · rw [z, upd_ne hbp, upd_same, b3]
              · rw [upd_ne z] at hy ⊢
                have hyp : y ≠ pp := fun w => hy (by rw [w]; exact hpp)
                rw [upd_ne hyp, fr y (by rw [upd_ne hyp]; exact hy), upd_ne hyp]
            obtain ⟨g', rh''⟩ := rh'.frame f1
            have sq' := (g.trans g').tk.seq sq
            refine ⟨_, g1, ?_⟩
            refine ⟨a, vs, k, .str s, rfl, rfl, sq', e1, pp, .ref b, rfl, .inl ⟨_, .inr s, .inl upd_same, rfl, ?_⟩, p m' _ _ (g.trans g') rh'' (g'.rd rd)⟩
            rw [dmerge_val, b1]
            rw [ly.len.2]
            exact dnodup_inr o1
      · exact p.elim
    · exact p.elim
  · exact p.elim
end
end Mn
namespace Mn
open PySem L2
def dPr (c : Nat) (f : FD) (o : ED) : ED := fun e h => (o e h).bind fun x h1 => match insAt h1 x with
  | some (c', _) => if c' = c then noX (f [x] h1) else .stuck
  | none => .stuck
def mN (n : Nat) : Nat := if n = 0 then 1 else n
theorem mN_of {n : Nat} (h : 1 ≤ n) : mN n = n := if_neg (by omega)
def MethP (K : PySem.W.Frag) (C : Addr) (m : Str) (n : Nat) (g : Addr) : Prop := (n ≠ 0 ∧ Meth K C m g) ∨ (n = 0 ∧ Cls K C ∧ ∃ p, PropOf K C m p g)
theorem MethP.meth {K : PySem.W.Frag} {C : Addr} {m : Str} {n : Nat} {g : Addr} (h : MethP K C m n g) (hn : 1 ≤ n) : Meth K C m g := by
  rcases h with ⟨_, h⟩ | ⟨z, _⟩
  · exact h
  · omega
theorem MethP.prop {K : PySem.W.Frag} {C : Addr} {m : Str} {n : Nat} {g : Addr} (h : MethP K C m n g) (hn : n = 0) : Cls K C ∧ ∃ p, PropOf K C m p g := by
  rcases h with ⟨z, _⟩ | ⟨_, h⟩
  · exact absurd hn z
  · exact h
section
variable {X : Cx} {cv : Nat → Value} {fn : Nat → Str} {W : WX} {pos : Pos}
theorem s_prop {oe : Expr} {mm : Str} {c k : Nat} {C g p : Addr} {fd : FuncData} {ps : List Str} {gT : FD} {fo : ED} (ho : PE X oe (PE_ (FX X cv fn none) W fo)) (hC : cv c = .ref C) (cl : Cls X.K C) (hp : PropOf X.K C mm p g)
    (F : FnOk X.prog X.w X.K X.mg X.base (L2N.CX X.prog X.w) k g fd ps (spT (FX X cv fn none) 1 gT)) (hr : Room (k + 1) X.A) (hb : Binds X.K fd ps [])
    (hab : attributeBase oe mm X.env (eval oe X.env) = eval oe X.env) : PE X (.Attribute oe mm pos) (PE_ (FX X cv fn none) W (dPr c gT fo)) := by
  refine peImp (pe_prop (E := fun _ _ _ => False) (dvs := []) ho cl hp F hr hb .nil (fun _ _ _ _ _ _ _ z => ?_) hab) fun σ H Q q => ?_
  · obtain ⟨_, _, _, _, _, _, _, _, _, _, _, _, z⟩ := z
    exact z.elim
  · obtain ⟨m, e, h, rh, re, p⟩ := q
    refine ⟨m, e, h, rh, re, p.bind fun x h1 m1 H1 xv g1 rh1 rx p1 => ?_⟩
    split at p1
    · rename_i c' fs e0
      obtain ⟨n, rfl, hn⟩ := insAt_of e0
      split at p1
      · rename_i hc
        subst hc
        obtain ⟨C', dx, vs, hC', hw, pf, cl', z⟩ := rh1.obj n _ hn
        have eC : C' = C := by have z := hC.symm.trans hC'; cases z; rfl
        subst eC
        have rx0 := rx
        cases rx
        refine ⟨_, dx, vs, rfl, hw, rfl, m1, h1, [.ref n], rh1, .cons rx0 .nil, ?_⟩
        cases q2 : gT [.ref n] h1 with
        | ok a h' => rw [q2] at p1; exact p1
        | exc y h' => rw [q2] at p1; exact p1.elim
        | stuck => rw [q2] at p1; exact p1.elim
      · exact p1.elim
    · exact p1.elim
end
end Mn
namespace Mn
open PySem L2 L2H PySem.Spec PyProof.Rows
structure FnHX (P : Program) (w : World) (K : PySem.W.Frag) (mg : Str → Option Value) (base : Heap) (k : Nat) (f : Addr) (fd : FuncData) (ps : List Str) (sp : Addr × Obj → Sp) : Prop where
  len : ∀ p vs H Q E, sp p vs H Q E → vs.length = ps.length
  run : ∀ (A : Around) (outer : List Env) (s : Shared) (H : Hp) (args : Args) (us : List Value) (vs : List V) (Q : VK) (E : XK) (p : Addr × Obj), RoomH k A → Hot1 A p → PinOk outer H s p → Env0 P w K mg base A outer s H → BindsTo s fd args (ps.zip us) → Vals vs us → sp p vs H Q E →
    codeAny (model P w) A (.call (.ref f) args) (CR (L2N.CX P w) outer P w H s Q E) s
theorem endH {P : Program} {w : World} {K : PySem.W.Frag} {mg : Str → Option Value} {base : Heap} {N : List Str} {qual : Str} {scope : Scope} {f : Addr} {cd : Value} {A : Around} {outer : List Env} {s s' : Shared} {H : Hp} {E : XK} {Q : VK} {p : Addr × Obj}
    {σ : L2.St} {H' : Hp} {v : V} {u : Value} (J : Inv (cxH (L2N.CX P w) P w K mg base N qual scope f cd A outer s H E p) [] σ H' s') (r : RelV v u) (q : Q v H') : CE outer P w H s Q u s' := ⟨v, H', J.os, J.bare, J.base, J.hok, r, q⟩
theorem fnHX_of {P : Program} {w : World} {K : PySem.W.Frag} {mg : Str → Option Value} {base : Heap} {k : Nat} {f : Addr} {name qual : Str} {params : Arguments} {body : List Stmt} {scope : Scope} {dV kV doc pm cdv ct oc : Value} {an od : Option Addr} {osl : Array (Option Value)} {N ps : List Str} {sp : Addr × Obj → Sp}
    (lk : K.lookup f = some ⟨oc, od, .func (PySem.W.fnOf name qual params body scope dV kV doc pm an cdv ct), osl⟩) (hcd : PySem.W.codeIn K cdv qual = true) (S : FnScope N ps scope) (len : ∀ p vs H Q E, sp p vs H Q E → vs.length = ps.length)
    (hbody : ∀ (A : Around) (outer : List Env) (s : Shared) (H : Hp) (vs : List V) (Q : VK) (E : XK) (p : Addr × Obj), Hot1 A p → RoomH k (A.deeper (envOfC qual scope s.heap.objs.size f cdv)) → sp p vs H Q E →
      ∃ t, PSs (cxH (L2N.CX P w) P w K mg base N qual scope f cdv A outer s H E p) body t ∧ t { nx := fun _ H' => Q .non H', rt := Q } (L2.start N vs) H) :
    FnHX P w K mg base (k + 1) f (PySem.W.fnOf name qual params body scope dV kV doc pm an cdv ct) ps sp :=
  ⟨len, fun A outer s H args us vs Q E p hr hot hpin e0 hb r hsp => by
    obtain ⟨t, ht, hq⟩ := hbody A outer s H vs Q E p hot (hr.deeper _) hsp
    have kin : K.In s.heap := e0.mod.kin.keeps fun b o e => (e0.bs b o e).1
    have nl : s.heap.NoLimit := e0.mod.nolimit.keeps fun b o e => (e0.bs b o e).1
    have kinds : ∀ y ∈ ps.zip us, scope.names.lookup y.1 = some .local ∨ (scope.names.lookup y.1 = some .cell ∧ ((cellsFrom (s.heap.objs.size + 1) scope.names []).lookup y.1).isSome = true) := fun y hy =>
      (S.par y.1 (List.of_mem_zip (a := y.1) (b := y.2) hy).1).elim .inl fun q => .inr ⟨q, PySem.W.cellsFrom_some _ _ _ (.inl q)⟩
    refine codeAny_call_function hr.depth (kin _ _ lk) rfl S.co S.gen rfl (PySem.W.codeRec_of kin hcd) (hb _ _ _ _ (wpAny_newFunctionEnv_cells S.kind kinds fun env he s1 x => ?_))
    cases he
    refine ⟨nl.keeps x.toInCall.keep, codeAny_func (wpAny_mono (ht.run [] s1 (L2.start N vs) H _ (inv_startH S hpin e0 (len _ _ _ _ _ hsp) r x) hq) (fun fl s' hs => ?_) fun e s' hs => hs)⟩
    cases fl with
    | ret u => obtain ⟨v, σ', H', J, rv, q⟩ := hs; exact endH J rv q
    | next => obtain ⟨σ', H', J, q⟩ := hs; exact endH (v := V.non) (u := Value.none) J rfl q
    | brk => obtain ⟨_, _, _, q⟩ := hs; exact q.elim
    | cont => obtain ⟨_, _, _, q⟩ := hs; exact q.elim⟩
section
variable {X : Cx} {k : Nat} {f : Addr} {fd : FuncData} {ps : List Str} {sp : Addr × Obj → Sp} {p : Addr × Obj}
theorem run_hx {E : XK} {pins : List (Addr × Obj)} {σ : L2.St} {H : Hp} {s : Shared} {Q : VK} {us : List Value} {vs : List V} (F : FnHX X.prog X.w X.K X.mg X.base k f fd ps sp) (hr : RoomH k X.A) (hh : Hot1 X.A p) (hp : p ∈ X.pn) (hb : Binds X.K fd ps []) (hx : PassesAt (L2N.CX X.prog X.w) X σ E)
    (I : Inv X pins σ H s) (r : Vals vs us) (h : sp p vs H Q E) : wpAny (model X.prog X.w) X.A (call (.ref f) us) (EP X pins σ Q) X.xe s := by
  have hl : (us ++ []).length = ps.length := by rw [List.append_nil]; exact r.length.symm.trans (F.len _ _ _ _ _ h)
  have b := hb s us I.kIn hl
  rw [List.append_nil] at b
  obtain ⟨p1, p2, p3, p4, p5⟩ := I.pin p (List.mem_append_left _ hp)
  have pin : PinOk X.stack H s p := ⟨p1, p2, fun hm => (List.mem_cons.mp (I.stkSub p.1 hm)).elim p3 p4, p5⟩
  refine wpAny_call (codeAny_mono (F.run X.A X.stack s H ⟨us, []⟩ us vs Q E p hr hh pin I.env0 b r h) fun res s2 q => ?_)
  match res, q with
  | .error x, q => exact hx pins H s x s2 I q
  | .ok (.ret w), q => exact I.after q
  | .ok .next, q => exact q.elim
  | .ok .brk, q => exact q.elim
  | .ok .cont, q => exact q.elim
end
def spTX (K : PySem.W.Frag) (cv : Nat → Value) (fn : Nat → Str) (g : Xc → Hh → R D) : Addr × Obj → Sp := fun p vs H Q E => vs = [.ref p.1] ∧ ∃ (y : Xc) (dd : Option Addr) (m : Nat → Addr) (h : Hh), L2N.Zn (cv y.cls) dd p.2 ∧ RH ⟨K, cv, fn, none⟩ m h H ∧ RXf K m h.length H y.fs dd ∧
  PO ⟨K, cv, fn, none⟩ (fun c d _ H => E c d H) (rdR ⟨K, cv, fn, none⟩) [] m h H (g y h) Q
section
variable {X : Cx} {cv : Nat → Value} {fn : Nat → Str} {xs : Xs} {W : WX} {pos : Pos} {a : Expr} {k : Nat} {f : Addr} {fd : FuncData} {ps : List Str} {g : FD} {x : Str} {p : Pos} {es : List Expr} {fs : AD} {pp : Addr × Obj}
theorem spT_hx {σ : L2.St} {m : Nat → Addr} {h : Hh} {H : Hp} {ds : List D} {vs : List V} {Q : VK} (n : Nat) (hn : vs.length = n) (rh : RH (FX X cv fn xs) m h H) (r : RDs X.K m h.length H ds vs)
    (p : PO (FX X cv fn xs) W (rdR (FX X cv fn xs)) σ m h H (g ds h) Q) : spT ⟨X.K, cv, fn, none⟩ n g vs H Q (WE W σ) := by
  refine ⟨hn, m, h, ds, rh.ex, r, ?_⟩
  cases q : g ds h with
  | ok a h' => rw [q] at p; exact fun m1 H1 b g1 rh1 r1 => p m1 H1 b g1 rh1.ex r1
  | exc x h' => rw [q] at p; exact fun m1 H1 c dd g1 rh1 r1 => p m1 H1 c dd g1 rh1.ex r1
  | stuck => rw [q] at p; exact p
theorem s_callHX (F : FnHX X.prog X.w X.K X.mg X.base k f fd ps (fun _ => spT ⟨X.K, cv, fn, none⟩ ps.length g)) (hr : RoomH k X.A) (hh : Hot1 X.A pp) (hp : pp ∈ X.pn) (hg : Gl X x) (hm : X.mg x = some (.ref f)) (hk : PySem.W.keepIn X.K (.ref f) = true) (hb : Binds X.K fd ps [])
    (hn : (a :: es).length = ps.length) (hlen : ∀ e h ds h', fs e h = .ok ds h' → ds.length = (a :: es).length) (tk : L2N.Takes X W) (ha : PA X (a :: es) (PA_ (FX X cv fn xs) W fs)) (hdb : (x == ("__debug__" : Str)) = false)
    (he : starEach (a :: es) X.env = (false, eval a X.env) :: starEach es X.env) (hpl : (backTo pos (starEach es X.env)).any (·.1) = false) :
    PE X (.Call (.Name x p) (a :: es) [] pos) (PE_ (FX X cv fn xs) W (dCall g fs [])) := by
  refine ⟨fun pins s σ H Q I hq => ?_⟩
  obtain ⟨m, e, h, rh, re, p0⟩ := hq
  unfold dCall at p0
  refine wpAny_Call_Name_kw (ld_glob I hg hm ?_ hdb)
  refine PySem.W.callWith_K (h₀ := X.base) I.ok.mod.kin hk (thn (ha.run pos pins s σ H (fun vs H1 => spT ⟨X.K, cv, fn, none⟩ ps.length g vs H1 Q (WE W σ)) I ⟨m, e, h, rh, re, ?_⟩) fun us s1 ⟨vs, H1, I1, r, q⟩ => ⟨I1.kIn, run_hx F hr hh hp hb (L2N.passAt tk σ) I1 r q⟩) he hpl
  cases q : fs e h with
  | ok ds h' =>
    rw [q] at p0
    intro m1 H1 vs g1 rh1 r1
    have p2 : PO (FX X cv fn xs) W (rdR (FX X cv fn xs)) σ m h H (g (ds ++ []) h') Q := p0
    rw [List.append_nil] at p2
    exact spT_hx ps.length (by rw [← r1.length, hlen _ _ _ _ q]; exact hn) rh1 r1 (p2.base g1)
  | exc x h' => rw [q] at p0; exact p0
  | stuck => rw [q] at p0; exact p0.elim
theorem s_callXX {i : Nat} {b : Addr} {y : Xc} {dd : Option Addr} {gx : Xc → Hh → R D} (F : FnHX X.prog X.w X.K X.mg X.base k f fd ps (spTX X.K cv fn gx)) (hr : RoomH k X.A) (hh : Hot1 X.A pp) (hp : pp ∈ X.pn) (hxs : xs = some (i, b, y, dd)) (hb' : b = pp.1) (hz : L2N.Zn (cv y.cls) dd pp.2)
    (hg : Gl X x) (hm : X.mg x = some (.ref f)) (hk : PySem.W.keepIn X.K (.ref f) = true) (hb : Binds X.K fd ps []) (tk : L2N.Takes X W) (ha : PA X [a] (fun σ H Q => σ[i]? = some (some (.ref b)) ∧ Q [.ref b] H)) (hdb : (x == ("__debug__" : Str)) = false)
    (he : starEach [a] X.env = (false, eval a X.env) :: starEach [] X.env) : PE X (.Call (.Name x p) [a] [] pos) (PE_ (FX X cv fn xs) W (fun _ h => gx y h)) := by
  subst hb'
  refine ⟨fun pins s σ H Q I hq => ?_⟩
  obtain ⟨m, e, h, rh, re, p0⟩ := hq
  change PO (FX X cv fn xs) W (rdR (FX X cv fn xs)) σ m h H (gx y h) Q at p0
  refine wpAny_Call_Name_kw (ld_glob I hg hm ?_ hdb)
  obtain ⟨e1, e2⟩ := re.exc i pp.1 y dd hxs
  refine PySem.W.callWith_K (h₀ := X.base) I.ok.mod.kin hk (thn (ha.run pos pins s σ H (fun vs H1 => spTX X.K cv fn gx pp vs H1 Q (WE W σ)) I ⟨e1, rfl, y, dd, m, h, hz, rh.ex, e2, ?_⟩) fun us s1 ⟨vs, H1, I1, r, q⟩ => ⟨I1.kIn, run_hx F hr hh hp hb (L2N.passAt tk σ) I1 r q⟩) he rfl
  cases q : gx y h with
  | ok d h' => rw [q] at p0; exact fun m1 H1 b g1 rh1 r1 => p0 m1 H1 b g1 rh1.ex r1
  | exc x h' => rw [q] at p0; exact fun m1 H1 c dd g1 rh1 r1 => p0 m1 H1 c dd g1 rh1.ex r1
  | stuck => rw [q] at p0; exact p0.elim
end
section
variable {X : Cx} {cv : Nat → Value} {fn : Nat → Str} {xs : Xs} {W : WX} {pos : Pos} {a tg : Expr} {fa : ED}
theorem i_range1H {p : Pos} (hg : Gl X "range") (hm : X.mg "range" = none) (ha : PE X a (PE_ (FX X cv fn xs) W fa)) (hs : starEach [a] X.env = [(false, eval a X.env)]) : PIH X tg (.Call (.Name "range" p) [a] [] pos) (PI_ (FX X cv fn xs) W (iRange1 fa)) :=
  ⟨fun pins s σ H R I q => (pi_range1H (tg := tg) (pos := pos) (p := p) hg hm (pa1 ha hs) hs).run pins s σ H R I (rng1_imp q)⟩
theorem s_forH {it : Expr} {body : List Stmt} {f : SD} {fi : ID} {k : Tg} {is : List Nat} (hp : PassesOwn (model X.prog X.w) X.A X.env X.xe) (hc : HotC X) (hi : PIH X tg it (PI_ (FX X cv fn xs) W fi)) (hg : PG X tg (PG_ (FX X cv fn xs) is k)) (hb : PSs X body (PS_ (FX X cv fn xs) W f))
    (hs : ∀ x, foldedSetIterable it X.env x = pure x) : PS X (.For tg it body [] pos) (PS_ (FX X cv fn xs) W (sFor fi k f)) :=
  psImp (ps_forH hp hc hi hg hb hs) fun D σ H q => for_imp q
end
section
variable {X : Cx} {a D : Addr} {oe : Obj}
theorem isi_at {d : Option Addr} (C : ExcC X.K D) (hp : (a, oe) ∈ X.pn) (hz : Zc (.ref D) d oe) (hf : ∃ vs, oe.data = .fields vs) :
    CallR X (.builtin "isinstance") (fun xs H Q => ∃ (c : V) (cv : Value) (b : Bool), xs = [.ref a, c] ∧ (∀ dd, d = some dd → ∃ fs, H dd = some (.xd fs)) ∧ (∀ u, RelV c u → u = cv) ∧ PySem.W.kitOne X.K (.ref D) cv = some b ∧ Q (.bl b) H) := by
  intro pins s σ H xs us Q I r ⟨c, cv, b, e0, hd, hcv, e, q⟩
  subst e0
  match us, r with
  | [_, _], .cons rx (.cons rt .nil) =>
    cases rx; cases hcv _ rt
    obtain ⟨hget, _⟩ := I.pin (a, oe) (List.mem_append_left _ hp)
    obtain ⟨vs, hv⟩ := hf
    have J : ∃ dd, PySem.W.InstAt s.heap a oe D dd := by
      cases d with
      | none => exact ⟨none, hget, hz.1, by unfold PySem.W.notCls; rw [hv] <;> rfl, by rw [hz.2]; trivial⟩
      | some dd =>
        obtain ⟨fs, hx⟩ := hd dd rfl
        obtain ⟨mA, hns, hr⟩ := (I.hok dd _ hx : ObjOk X.prog X.w H s.heap dd (.xd fs))
        obtain ⟨od, ho, _⟩ := lookIn_ns hns
        exact ⟨some od, hget, hz.1, by unfold PySem.W.notCls; rw [hv] <;> rfl, by rw [hz.2]; exact ho⟩
    exact PySem.W.kia_one (kit_told C) I.kIn J e (fun z => nomatch z) fun tk => ⟨.bl b, H, I.kept (t' := tk) fun _ _ z => z, rfl, q⟩
theorem pe_xfAt {C : Addr} {cls : Value} {d : Option Addr} {e : Expr} {te : TE} {pos : Pos} {n : Str} (T : XfC X.K C) (hno : PySem.W.findIn X.K (.ref C) n = some none) (hp : (a, oe) ∈ X.pn) (hz : Zc cls d oe) (hf : ∃ vs, oe.data = .fields vs) (he : PE X e te) (hb : attributeBase e n X.env (eval e X.env) = eval e X.env) :
    PE X (.Attribute e n pos) (tXf a cls d C n te) :=
  ⟨fun pins s σ H Q I h => attr_of hb (thn (he.run pins s σ H _ I h) fun u s1 ⟨x, H1, I1, rx, ex, ec, dd, fs, v, ed, ea, l, q⟩ => by
    subst ex ec ed
    cases (show u = Value.ref a from rx)
    obtain ⟨vs, hd⟩ := hf
    obtain ⟨mA, hns, hr⟩ := (I1.hok dd _ ea : ObjOk X.prog X.w H1 s1.heap dd (.xd fs))
    obtain ⟨od, ho, hl⟩ := lookIn_ns hns
    obtain ⟨u, hu, ru⟩ := RelO.some_of (v := v) (o := mA n) (by rw [← l]; exact hr n)
    exact HandSPX.exc_get I1.kIn ⟨(I1.pin (a, oe) (List.mem_append_left _ hp)).1, hz.1, by unfold PySem.W.notCls; rw [hd] <;> rfl, by rw [hz.2]; exact ho⟩ T.ga T.gg T.exC (PySem.W.findObj_own T.hdC hno rfl (by rw [hl, hu])) (handed_of ru) ⟨v, H1, I1.tok _, ru, q⟩)⟩
end
end Mn
namespace Mn
open PySem L2
inductive GV where
  | blt | bf (id : String) | val (d : D) | fn (id n : Nat) (dv : List D) | cls (id : Nat) | bcls (id : Nat)
  /-- a class of instances: its number, its __init__, all parameters, the last parameters' defaults, the numbers of written arguments, calls with keywords -/
  | ucls (c id n : Nat) (dv : List D) (ps : List Nat) (ks : List (Nat × List Str × List KP × List D))
  /-- an exception with attributes -/
  | xcls (c : Nat) (fs : List Nat)
inductive Md where
  | body | blk | suite (x : Xc) (n : Option (Str × Nat)) | hot
structure G where
  N : List Str
  sc : Scope
  gl : List (Str × GV)
  fl : List (Str × Nat)
  ms : List (Str × List (Nat × Nat × Nat × List D))
  T : Nat → FD
  /-- the defs, called in an except suite; called there with the exception alone -/
  TH : Nat → FD
  TX : Nat → Xc → Hh → R D
  sub : Nat → Nat → Option Bool
  isi : Nat → Nat → Option Bool
  xa : Nat → List Nat
  fuel : Nat
  md : Md
def dAndT (a b : ED) : ED := fun e h => (a e h).bind fun x h1 => match truth x h1 with
  | some k => if k then b e h1 else .ok x h1
  | none => .stuck
def dOrT (a b : ED) : ED := fun e h => (a e h).bind fun x h1 => match truth x h1 with
  | some k => if k then .ok x h1 else b e h1
  | none => .stuck
def dNotT (a : ED) : ED := fun e h => (a e h).bind fun x h1 => match truth x h1 with
  | some k => .ok (.bl (!k)) h1
  | none => .stuck
def iop : Operator → D → D → Hh → R D
  | .Add, .int i, .int j, h => .ok (.int (i + j)) h
  | .Sub, .int i, .int j, h => .ok (.int (i - j)) h
  | .Mult, .int i, .int j, h => if cMul i j then .ok (.int (i * j)) h else .stuck
  | .Add, .str a, .str b, h => if a.length + b.length ≤ szl then .ok (.str (a ++ b)) h else .stuck
  | _, _, _, _ => .stuck
structure DD where
  E : G → Expr → ED
  T : G → Expr → TD
  S : G → Stmt → SD
def isStar : Expr → Bool
  | .Starred .. => true
  | _ => false
def isSlice : Expr → Bool
  | .Slice .. => true
  | _ => false
def isSet : Expr → Bool
  | .Set .. => true
  | _ => false
def isLc : Expr → Bool
  | .ListComp .. | .SetComp .. | .DictComp .. => true
  | _ => false
def okNm (x : Str) : Bool := !(x == ("__debug__" : Str)) && !(x == ("__classdict__" : Str)) && !(x == ("__name__" : Str))
def G.calm (g : G) : Bool := match g.md with
  | .suite _ _ => false
  | .hot => false
  | _ => true
def G.hotOk (g : G) : Bool := match g.md with
  | .suite _ (some _) => true
  | .hot => true
  | _ => false
def G.ix (g : G) (x : Str) : Option Nat := g.N.findIdx? (· == x)
def G.own (g : G) (x : Str) : Bool := match g.sc.names.lookup x with
  | some .local => true
  | some .cell => true
  | some .free => true
  | _ => false
def G.glob (g : G) (x : Str) : Option GV := match g.sc.names.lookup x with
  | some .globalImplicit => if okNm x = true then g.gl.lookup x else none
  | _ => none
def G.sto (g : G) (x : Str) : Option Nat := if g.sc.names.lookup x == some .local || g.sc.names.lookup x == some .cell then match g.ix x with
    | some i => match g.md with
      | .suite _ (some (_, j)) => if i = j then none else some i
      | _ => some i
    | none => none
  else none
def denA (d : DD) (g : G) : List Expr → AD
  | [] => aN
  | e :: es => aC (d.E g e) (denA d g es)
def tyOf (x : Str) : Option Ty := if x == ("int" : Str) then some .int else if x == ("bool" : Str) then some .bool else if x == ("str" : Str) then some .str else if x == ("tuple" : Str) then some .tuple else if x == ("list" : Str) then some .list else none
def G.exc (g : G) : Expr → Option Xc
  | .Name x _ => match g.md with
    | .suite y (some (n, _)) => if x == n then some y else none
    | _ => none
  | _ => none
def G.cid (g : G) : Expr → Option Nat
  | .Name x _ => match g.glob x with
    | some (.cls c) => some c
    | some (.bcls c) => some c
    | some (.xcls c _) => some c
    | _ => none
  | _ => none
def G.fid (g : G) (x : Str) : Option Nat := match g.fl.lookup x with
  | some i => if (fnm i == x) = true ∧ i < fnames.length then some i else none
  | none => none
def dXf (xa : Nat → List Nat) (y : Xc) (i : Nat) : ED := if (xa y.cls).elem i = true then match y.fs.lookup i with
    | some d => dC d
    | none => dK
  else dK
def isX (t : Nat → Nat → Option Bool) (y : Xc) (c : Nat) : ED := match t y.cls c with
  | some k => dC (.bl k)
  | none => dK
def denIs (d : DD) (g : G) (a b : Expr) : ED := match g.exc a with
  | some y => match g.cid b with
    | some c => isX g.isi y c
    | none => dK
  | none => match b with
    | .Name t _ => match g.glob t, tyOf t with
      | some .blt, some ty => dIs ty (d.E g a)
      | _, _ => dK
    | _ => dK
def denL (d : DD) (g : G) (a : Expr) : ED := match a with
  | .Call (.Name y _) [b] [] _ => match g.glob y with
    | some .blt => if isStar b = true then dCall fList (denA d g [a]) []
      else if y == ("reversed" : Str) then (if g.calm = true then dCall fLRev (denA d g [b]) [] else dK)
      else if y == ("range" : Str) then (if g.calm = true then dCall fLRng (denA d g [b]) [] else dK)
      else dCall fList (denA d g [a]) []
    | _ => dCall fList (denA d g [a]) []
  | .Call (.Name y _) [b, c] [] _ => match g.glob y with
    | some .blt => if isStar b = true ∨ isStar c = true then dCall fList (denA d g [a]) []
      else if y == ("range" : Str) then (if g.calm = true then dCall fLRng (denA d g [b, c]) [] else dK)
      else dCall fList (denA d g [a]) []
    | _ => dCall fList (denA d g [a]) []
  | _ => dCall fList (denA d g [a]) []
def denLen (d : DD) (g : G) (a : Expr) : ED := match a with
  | .Call (.Name y _) [b] [] _ => match g.glob y with
    | some .blt => if isStar b = true then dCall fLen (denA d g [a]) []
      else if y == ("set" : Str) then (if g.calm = true then dCall fLenS (denA d g [b]) [] else dK)
      else dCall fLen (denA d g [a]) []
    | _ => dCall fLen (denA d g [a]) []
  | _ => dCall fLen (denA d g [a]) []
def denB (d : DD) (g : G) (x : Str) (args : List Expr) : ED := match args with
  | [a] => if x == ("len" : Str) then denLen d g a
    else if x == ("abs" : Str) then dCall fAbs (denA d g args) []
    else if x == ("int" : Str) then dCall fInt (denA d g args) []
    else if x == ("str" : Str) then (if g.calm = true then dCall fStrL (denA d g args) [] else dCall fStr (denA d g args) [])
    else if x == ("list" : Str) then denL d g a
    else if x == ("tuple" : Str) then dCall fTuple (denA d g args) []
    else if x == ("range" : Str) then dCall fRng1 (denA d g args) []
    else if g.calm = true then
      if x == ("sum" : Str) then dCall fSum (denA d g args) []
      else if x == ("all" : Str) then dCall fAll (denA d g args) []
      else if x == ("any" : Str) then dCall fAny (denA d g args) []
      else if x == ("sorted" : Str) then dCall fSorted (denA d g args) []
      else dK
    else dK
  | [a, b] => if x == ("isinstance" : Str) then denIs d g a b
    else if g.calm = true then
      if x == ("max" : Str) then dCall fMax (denA d g args) []
      else if x == ("min" : Str) then dCall fMin (denA d g args) []
      else dK
    else dK
  | _ => dK
def denHC (d : DD) (g : G) (id n : Nat) (args : List Expr) : ED := if g.hotOk = true then match args with
  | [] => dK
  | a :: r => match g.exc a with
    | some y => if n = 1 ∧ r = [] then (fun _ h => g.TX id y h) else dK
    | none => if (a :: r).length = n then dCall (g.TH id) (denA d g (a :: r)) [] else dK
  else dK
def denC (d : DD) (g : G) (x : Str) (args : List Expr) : ED := if args.any isStar = true then dK else match g.glob x with
  | some (.fn id n dv) => if g.calm = true ∧ args.length ≤ n ∧ n - args.length ≤ dv.length then dCall (g.T id) (denA d g args) (dv.drop (dv.length - (n - args.length))) else denHC d g id n args
  | some (.bf f) => if f = "math.gcd" ∧ args ≠ [] then dCall fGcd (denA d g args) [] else dK
  | some .blt => denB d g x args
  | some (.ucls c id n dv ps _) => if g.calm = true ∧ ps.elem args.length = true then dMk c (g.T id) (denA d g args) (dv.drop (dv.length - (n - (args.length + 1)))) else dK
  | _ => dK
def okBase : Expr → Bool
  | .Name .. | .Attribute .. | .Subscript .. | .Constant .. | .List .. => true
  | .Call (.Attribute ..) _ _ _ => true
  | .Call (.Name ..) (_ :: _) _ _ => true
  | _ => false
def mtTab (m : Str) (n : Nat) : Option ((D → Hh → Bool) × (D → List D → Hh → R D)) :=
  if m == ("append" : Str) ∧ n ≠ 0 then some (chkL, mAppend)
  else if m == ("pop" : Str) then (if n = 0 then some (chkL, mPop) else some (chkL, mPopAt))
  else if m == ("reverse" : Str) ∧ n = 0 then some (chkL, mRev)
  else if m == ("insert" : Str) ∧ n ≠ 0 then some (chkL, mInsert)
  else if m == ("extend" : Str) ∧ n ≠ 0 then some (chkL, mExtend)
  else if m == ("index" : Str) ∧ n ≠ 0 then some (chkL, mIndex)
  else if m == ("remove" : Str) ∧ n ≠ 0 then some (chkL, mRemove)
  else if m == ("split" : Str) ∧ n ≠ 0 then some (chkS, mSplit)
  else if m == ("join" : Str) ∧ n ≠ 0 then some (chkS, mJoin)
  else if m == ("rfind" : Str) ∧ n ≠ 0 then some (chkS, mRfind)
  else if m == ("partition" : Str) ∧ n ≠ 0 then some (chkS, mPart)
  else none
def mtF (f : FD) (dv : List D) : FD := fun ds h => f (ds ++ dv) h
def G.mt (g : G) (nw : Nat) : List (Nat × Nat × Nat × List D) → List (Nat × FD)
  | [] => []
  | (c, id, n, dv) :: r => if nw + 1 ≤ n ∧ n - (nw + 1) ≤ dv.length then (c, mtF (g.T id) (dv.drop (dv.length - (n - (nw + 1))))) :: g.mt nw r else g.mt nw r
def denF (d : DD) (g : G) (o : Expr) (f : Str) : ED := match g.fid f with
  | some i => match g.exc o with
    | some y => dXf g.xa y i
    | none => if okBase o = true then dFld i (d.E g o) else dK
  | none => match g.ms.lookup f with
    | some [(c, id, n, dv)] => if g.calm = true ∧ n = 0 ∧ okBase o = true then dPr c (g.T id) (d.E g o) else dK
    | _ => dK
def kwn : List Keyword → Option (List Str)
  | [] => some []
  | k :: r => match k.arg, kwn r with
    | some x, some l => some (x :: l)
    | _, _ => none
def denK (d : DD) (g : G) (x : Str) (args : List Expr) (kws : List Keyword) : ED := match g.glob x with
  | some (.ucls c id _ _ _ ks) => match kwn kws with
    | some l => match ks.find? (fun t => t.1 == args.length && t.2.1 == l) with
      | some t => if g.calm = true ∧ args.any isStar = false then dMkK c (g.T id) t.2.2.1 t.2.2.2 (denA d g args) (denA d g (kws.map (·.value))) else dK
      | none => dK
    | none => dK
  | _ => dK
def denM (d : DD) (g : G) (o : Expr) (m : Str) (apos pos : Pos) (args : List Expr) : ED :=
  if args.any isStar = false ∧ args.length < 20 ∧ (apos.endLine == pos.line) = true ∧ okBase o = true then match mtTab m args.length with
    | some p => dM p.1 p.2 (d.E g o) (denA d g args)
    | none => match g.ms.lookup m with
      | some l => if g.calm = true then dMe (g.mt args.length l) (d.E g o) (denA d g args) else dK
      | none => dK
  else dK
def denO (d : DD) (g : G) : Option Expr → OD
  | none => oN
  | some e => oS (d.E g e)
def G.stos (g : G) : List Expr → Option (List Nat)
  | [] => some []
  | .Name x _ :: es => match g.sto x, g.stos es with
    | some i, some is => some (i :: is)
    | _, _ => none
  | _ => none
def G.tgs (g : G) : List Expr → Option (List Nat × List Tg)
  | [] => some ([], [])
  | .Name x _ :: es => match g.sto x, g.tgs es with
    | some i, some p => some ([i] ++ p.1, gN i :: p.2)
    | _, _ => none
  | .Tuple ts _ _ :: es => match g.stos ts, g.tgs es with
    | some is, some p => some (is ++ p.1, gT is :: p.2)
    | _, _ => none
  | _ => none
def allNm : List Expr → Bool
  | [] => true
  | .Name .. :: es => allNm es
  | _ => false
def G.tg (g : G) : Expr → Option (List Nat × Tg)
  | .Name x _ => (g.sto x).map fun i => ([i], gN i)
  | .Tuple es _ _ => if g.calm = true then (if allNm es = true then (g.stos es).map fun is => (is, gT is) else (g.tgs es).map fun p => (p.1, gTm p.2)) else none
  | _ => none
def isTup : Expr → Bool
  | .Tuple .. => true
  | _ => false
def iK : ID := fun _ _ => .stuck
def denI (d : DD) (g : G) (tg : Expr) : Expr → ID
  | .Call (.Name x p) args [] pos => match g.glob x with
    | some .blt => match args with
      | [a] => if isStar a = true then iK
        else if x == ("range" : Str) then iRange1 (d.E g a)
        else if x == ("reversed" : Str) then iRev (d.E g a)
        else if x == ("enumerate" : Str) ∧ isTup tg = true then iEnum (d.E g a)
        else if x == ("list" : Str) then iSeq (d.E g (.Call (.Name x p) args [] pos))
        else iK
      | [a, b] => if isStar a = true ∨ isStar b = true then iK
        else if x == ("range" : Str) then iRange2 (d.E g a) (d.E g b)
        else if x == ("zip" : Str) ∧ isTup tg = true then iZip (d.E g a) (d.E g b)
        else iK
      | _ => iK
    | _ => iSeq (d.E g (.Call (.Name x p) args [] pos))
  | e => if isSet e = true then iK else iSeq (d.E g e)
def ownOf (g : G) (sc : Scope) : List (Str × Nat) := sc.names.filterMap fun y => match y.2 with
  | .local => (g.ix y.1).map fun i => (y.1, i)
  | .cell => (g.ix y.1).map fun i => (y.1, i)
  | _ => none
def denTs (d : DD) (g : G) : List Expr → TD
  | [] => tY
  | [c] => d.T g c
  | _ => tK
noncomputable def denLc (d : DD) (g : G) (el : Expr) (gs : List Comprehension) (sc : Scope) : ED := match gs with
  | [⟨tg, it, ifs, 0⟩] =>
    let own := ownOf g sc
    let g' : G := { g with sc := relS sc g.sc, md := .blk }
    match g'.tg tg with
    | some (is, t) => if g.calm = true ∧ blkC g.N g.sc sc own = true ∧ is.all (fun i => decide (i ∈ own.map (·.2))) = true ∧ isSet it = false then dLc (denI d g tg it) t (denTs d g' ifs) (d.E g' el) (own.map (·.2)) else dK
    | none => dK
  | [⟨tg, it, ifs, 0⟩, ⟨tg1, it1, ifs1, 0⟩] =>
    let own := ownOf g sc
    let g' : G := { g with sc := relS sc g.sc, md := .blk }
    match g'.tg tg, g'.tg tg1 with
    | some (is, t), some (is1, t1) => if g.calm = true ∧ blkC g.N g.sc sc own = true ∧ is.all (fun i => decide (i ∈ own.map (·.2))) = true ∧ is1.all (fun i => decide (i ∈ own.map (·.2))) = true ∧ isSet it = false ∧ isSet it1 = false then
        dLc2 (denI d g tg it) t (denTs d g' ifs) (denI d g' tg1 it1) t1 (denTs d g' ifs1) (d.E g' el) (own.map (·.2)) is1 else dK
    | _, _ => dK
  | _ => dK
def denBoE (d : DD) (g : G) (op : BoolOp) : List Expr → ED
  | [] => dK
  | [a] => d.E g a
  | a :: b :: r => match op with
    | .And => dAndT (d.E g a) (denBoE d g op (b :: r))
    | .Or => dOrT (d.E g a) (denBoE d g op (b :: r))
def denBoT (d : DD) (g : G) (op : BoolOp) : List Expr → TD
  | [] => tK
  | [a] => d.T g a
  | a :: b :: r => match op with
    | .And => tAnd (d.T g a) (denBoT d g op (b :: r))
    | .Or => tOr (d.T g a) (denBoT d g op (b :: r))
def denIx (d : DD) (g : G) : Expr → Expr → ED
  | .Dict ks vs _, .Subscript (.Name x _) (.Constant (.int k) _ _) _ => match dspOf ks vs, g.ix x with
    | some kvs, some i => if (dspOk kvs && okNm x && g.own x) = true then dDsp kvs i k else dK
    | _, _ => dK
  | a, b => dIx (d.E g a) (d.E g b)
noncomputable def stepE (d : DD) (g : G) : Expr → ED
  | .Name x _ => if okNm x = true then (if g.own x = true then (match g.exc (.Name x ⟨0, 0, 0, 0⟩) with
      | some _ => dK
      | none => match g.ix x with
        | some i => dV i
        | none => dK) else match g.glob x with
      | some (.val v) => dC v
      | _ => dK) else dK
  | .Constant .none _ _ => dC .non
  | .Constant (.bool b) _ _ => dC (.bl b)
  | .Constant (.int i) _ _ => dC (.int i)
  | .Constant (.str s) _ _ => dC (.str s)
  | .BinOp a op b _ => dB op (d.E g a) (d.E g b)
  | .UnaryOp .Not a _ => dNotT (d.E g a)
  | .UnaryOp op a _ => dU op (d.E g a)
  | .BoolOp op es _ => denBoE d g op es
  | .Compare a [op] [b] _ => if behindInMarks op b = true then dK else dCmp op (d.E g a) (d.E g b)
  | .Compare a [op, op'] [b, c] _ => if lastMarks [op, op'] [b, c] = true then dK else dCh op op' (d.E g a) (d.E g b) (d.E g c)
  | .IfExp c a b _ => dIf (d.T g c) (d.E g a) (d.E g b)
  | .Call (.Name x _) args [] _ => denC d g x args
  | .Call (.Name x _) args (k :: ks) _ => denK d g x args (k :: ks)
  | .Call (.Attribute o m apos) args [] pos => denM d g o m apos pos args
  | .Attribute o f _ => denF d g o f
  | .Subscript a (.Slice lo hi none _) _ => dSl (d.E g a) (denO d g lo) (denO d g hi)
  | .Subscript a b _ => if isSlice b = true then dK else denIx d g a b
  | .Tuple es _ _ => if es.any isStar = true then dK else dTup (denA d g es)
  | .List es _ => if es.any isStar = true then dK else dLst (denA d g es)
  | .ListComp el gs sc _ => denLc d g el gs sc
  | _ => dK
def plainT : Expr → Bool
  | .Name .. | .Call .. | .Subscript .. | .Constant .. | .Attribute .. | .BinOp .. => true
  | _ => false
def stepT (d : DD) (g : G) : Expr → TD
  | .UnaryOp .Not a _ => tNot (d.T g a)
  | .BoolOp op es _ => denBoT d g op es
  | .Compare a [op] [b] _ => if behindInMarks op b = true then tK else tB (dCmp op (d.E g a) (d.E g b))
  | .Compare a [op, op'] [b, c] _ => if lastMarks [op, op'] [b, c] = true then tK else tB (dCh op op' (d.E g a) (d.E g b) (d.E g c))
  | e => if plainT e = true then tE (d.E g e) else tK
def denSs (d : DD) (g : G) : List Stmt → SD
  | [] => sNx
  | [s] => d.S g s
  | s :: t :: r => sSq (d.S g s) (denSs d g (t :: r))
def gK : GD := fun _ _ _ => .stuck
def denG (d : DD) (g : G) : Expr → GD
  | .Subscript o i _ => if isSlice i = true then gK else gIx (d.E g o) (d.E g i)
  | e => match g.tg e with
    | some (_, t) => ofG t
    | none => gK
def okAs (tg e : Expr) : Bool := match tg with
  | .Name .. => !isLc e
  | .Subscript .. => true
  | .Tuple .. => !isTup e
  | _ => false
def denAug (g : G) (d : DD) (x : Str) (op : Operator) (e : Expr) : SD := match g.sto x with
  | some i => fun ev h => (dV i ev h).toS ev fun v h1 => (d.E g e ev h1).toS ev fun w h2 => (iop op v w h2).toS ev fun z h3 => .go .nx (ev.set i (some z)) h3
  | none => sK
def denH (d : DD) (g : G) : List ExceptHandler → Option (Hd)
  | [.ExceptHandler (some (.Name x np)) (some n) (b :: bs) _] => match g.cid (.Name x np), g.ix n with
    | some c, some i => if g.sc.names.lookup n == some .local && okNm n then some ⟨c, some i, fun y => denSs d { g with md := .suite y (some (n, i)) } (b :: bs)⟩ else none
    | _, _ => none
  | [.ExceptHandler (some (.Name x np)) none (b :: bs) _] => match g.cid (.Name x np) with
    | some c => some ⟨c, none, fun y => denSs d { g with md := .suite y none } (b :: bs)⟩
    | none => none
  | _ => none
def denHs (d : DD) (g : G) : List ExceptHandler → Option (List Hd)
  | [] => some []
  | h :: hs => match denH d g [h], denHs d g hs with
    | some a, some r => some (a :: r)
    | _, _ => none
def okPar (g : G) (x y : Str) (px py : Pos) (a b : Expr) : Bool := g.calm && g.sc.kind == .function && !isStar a && !isStar b && py.line == px.line && g.sc.names.lookup x == some .local && g.sc.names.lookup y == some .local && !(x == y)
  && !(foldedForSure 8 a && foldedForSure 8 b) && !(constantsAlone 8 a && constantsAlone 8 b)
def okFold (a b : Expr) : Bool := foldedForSure 8 a && foldedForSure 8 b
def denPar (d : DD) (g : G) (x y : Str) (px py : Pos) (a b : Expr) (alt : SD) : SD := match g.ix x, g.ix y with
  | some i, some j => if okPar g x y px py a b = true then sPar i j (d.E g a) (d.E g b) else if okFold a b = true then alt else sK
  | _, _ => sK
noncomputable def denFH (d : DD) (g : G) (tg it : Expr) (body : List Stmt) : SD := if g.hotOk = true then match it with
  | .Call (.Name x _) [a] [] _ => match g.glob x with
    | some .blt => if x == ("range" : Str) ∧ isStar a = false then match g.tg tg with
        | some (_, t) => sFor (iRange1 (d.E g a)) t (denSs d g body)
        | none => sK
      else sK
    | _ => sK
  | _ => sK
  else sK
noncomputable def stepS (d : DD) (g : G) : Stmt → SD
  | .Pass _ => sNx
  | .Break _ => sBk
  | .Continue _ => sCt
  | .Expr e _ => if isLc e = true then sK else sEx (d.E g e)
  | .Return (some e) _ => sRt (d.E g e)
  | .Return none _ => sRt (dC .non)
  | .If c a b _ => sIf (d.T g c) (denSs d g a) (denSs d g b)
  | .Assign [.Name y py] (.ListComp el gs sc cpos) _ => if (g.sc.names.lookup y == some .cell) = true then sAs (d.E g (.ListComp el gs sc cpos)) (denG d g (.Name y py)) else match g.sto y with
    | some i => if g.sc.names.lookup y == some .local && py.line == cpos.line && !(sc.names.any fun (n, k) => n == y && (k == .local || k == .cell)) && g.calm then sAs (denLc d g el gs sc) (ofG (gN i)) else sK
    | none => sK
  | .Assign [.Tuple [.Name x px, .Name y py] kt pt] (.Tuple [a, b] k2 pt2) _ => denPar d g x y px py a b (sAs (d.E g (.Tuple [a, b] k2 pt2)) (denG d g (.Tuple [.Name x px, .Name y py] kt pt)))
  | .Assign [.Attribute o f _] e _ => match g.fid f with
    | some i => if okBase o = true then sFl naT i (d.E g o) (d.E g e) else sK
    | none => sK
  | .Assign [tg] e _ => if okAs tg e = true then sAs (d.E g e) (denG d g tg) else sK
  | .AugAssign (.Name x _) op e _ => denAug g d x op e
  | .AugAssign (.Subscript o i _) op e _ => if isSlice i = true then sK else sAugI (iop op) (d.E g o) (d.E g i) (d.E g e)
  | .AugAssign (.Attribute o f _) op e _ => match g.fid f with
    | some i => sAugF naT i (iop op) (d.E g o) (d.E g e)
    | none => sK
  | .For tg it body [] _ => if g.calm = true ∧ isSet it = false then match g.tg tg with
      | some (_, t) => sFor (denI d g tg it) t (denSs d g body)
      | none => sK
    else denFH d g tg it body
  | .While c body [] _ => whGo (d.T g c) (denSs d g body) g.fuel
  | .Raise (some (.Call (.Name x _) [] [] _)) none _ => if g.calm = true then match g.glob x with
      | some (.cls c) => sRaise c
      | _ => sK
    else sK
  | .Raise (some (.Call (.Name x _) (a :: as) [] _)) none _ => if g.calm = true ∧ (a :: as).any isStar = false then match g.glob x with
      | some (.xcls c fs) => if fs ≠ [] ∧ fs.length < 900 then sRaiseA c fs (denA d g (a :: as)) else sK
      | _ => sK
    else sK
  | .Try body hs [] [] _ => match g.md with
    | .body => match denH d g hs with
      | some hd => sTry g.sub (denSs d g body) hd
      | none => match hs, denHs d g hs with
        | _ :: _, some hds => sTryM g.sub (denSs d g body) hds
        | _, _ => sK
    | _ => sK
  | _ => sK
noncomputable def dd : Nat → DD
  | 0 => ⟨fun _ _ => dK, fun _ _ => tK, fun _ _ => sK⟩
  | n + 1 => ⟨stepE (dd n), stepT (dd n), stepS (dd n)⟩
end Mn
namespace Mn
open PySem L2
def GlOk (K : PySem.W.Frag) (mg : Str → Option Value) (cv : Nat → Value) (x : Str) : GV → Prop
  | .blt => mg x = none
  | .bf id => mg x = some (.builtin id)
  | .val d => ∃ u v, mg x = some u ∧ RelV v u ∧ ∀ m N H, RD K m N H d v
  | .fn _ _ _ => True
  | .cls c => ∃ C, cv c = .ref C ∧ mg x = some (.ref C) ∧ PySem.W.keepIn K (.ref C) = true ∧ PySem.W.excIn K C [.type "ValueError", .type "Exception", .type "BaseException", .type "object"] "ValueError.__new__" = true ∧
      PySem.W.subIn K (.ref C) (.type "BaseException") = some true ∧ PySem.W.typeIn K (.ref C) = some (.type "type")
  | .bcls c => ∃ n : String, cv c = .type n ∧ mg x = none ∧ bootBuiltins x = some (.type n)
  | .ucls _ _ _ _ _ _ => True
  | .xcls c fs => ∃ C, cv c = .ref C ∧ mg x = some (.ref C) ∧ PySem.W.keepIn K (.ref C) = true ∧ OexC K C ∧ ∃ (fI : Addr) (fd : FuncData) (ps : List Str), PySem.W.findIn K (.ref C) "__init__" = some (some (.ref fI)) ∧ PySem.W.typeIn K (.ref fI) = some (.type "function") ∧
      (∀ (P : Program) (w : World) (mg : Str → Option Value) (base : Heap) (CX : CXT), FnOk P w K mg base CX 1 fI fd ps (spX K C (fs.map fnm))) ∧ Binds K fd ps []
def KsOk (K : PySem.W.Frag) (fd : FuncData) (ps : List Str) (n : Nat) (t : Nat × List Str × List KP × List D) : Prop := ∃ (nvs : List V) (mv : List Value), (∀ m N H, RDs K m N H t.2.2.2 nvs) ∧ KBn K fd ps (t.1 + 1) t.2.1 (fun us ws => gKP t.2.2.1 us mv ws) (fun vs zs => gKP t.2.2.1 vs nvs zs) ∧
  ∀ us mv ws : List D, us.length = t.1 + 1 → mv.length = t.2.2.2.length → ws.length = t.2.1.length → (gKP t.2.2.1 us mv ws).length = n
structure FnsOk (P : Program) (w : World) (K : PySem.W.Frag) (mg : Str → Option Value) (base : Heap) (cv : Nat → Value) (fn : Nat → Str) (gl : List (Str × GV)) (ms : List (Str × List (Nat × Nat × Nat × List D))) (k : Nat) (T : Nat → FD) : Prop where
  fns : ∀ (x : Str) (id n : Nat) (dv : List D), gl.lookup x = some (.fn id n dv) → ∃ (f : Addr) (fd : FuncData) (ps : List Str) (dvs : List V), mg x = some (.ref f) ∧ PySem.W.keepIn K (.ref f) = true ∧ ps.length = n ∧
    FnOk P w K mg base (L2N.CX P w) k f fd ps (spT ⟨K, cv, fn, none⟩ n (T id)) ∧ (∀ m N H, RDs K m N H dv dvs) ∧ ∀ j, j ≤ dv.length → ∃ ws, Vals (dvs.drop j) ws ∧ Binds K fd ps ws
  cls : ∀ (x : Str) (c id n : Nat) (dv : List D) (pc : List Nat) (ks : List (Nat × List Str × List KP × List D)), gl.lookup x = some (.ucls c id n dv pc ks) → ∃ (C g : Addr) (fd : FuncData) (ps : List Str) (dvs : List V), mg x = some (.ref C) ∧ cv c = .ref C ∧ Cls K C ∧ Mk K C g ∧ ps.length = n ∧
    FnOk P w K mg base (L2N.CX P w) k g fd ps (spT ⟨K, cv, fn, none⟩ n (T id)) ∧ (∀ m N H, RDs K m N H dv dvs) ∧ (∀ j, pc.elem j = true → j + 1 ≤ n ∧ n - (j + 1) ≤ dv.length ∧ ∃ ws, Vals (dvs.drop (dv.length - (n - (j + 1)))) ws ∧ Binds K fd ps ws) ∧ ∀ t ∈ ks, KsOk K fd ps n t
  mts : ∀ (m : Str) (l : List (Nat × Nat × Nat × List D)), ms.lookup m = some l → ∀ e ∈ l, ∃ (C g : Addr) (fd : FuncData) (ps : List Str) (dvs : List V), cv e.1 = .ref C ∧ MethP K C m e.2.2.1 g ∧ ps.length = mN e.2.2.1 ∧
    FnOk P w K mg base (L2N.CX P w) k g fd ps (spT ⟨K, cv, fn, none⟩ (mN e.2.2.1) (T e.2.1)) ∧ (∀ m N H, RDs K m N H e.2.2.2 dvs) ∧ ∀ j, j ≤ e.2.2.2.length → ∃ ws, Vals (dvs.drop j) ws ∧ Binds K fd ps ws
structure FnsHOk (P : Program) (w : World) (K : PySem.W.Frag) (mg : Str → Option Value) (base : Heap) (cv : Nat → Value) (fn : Nat → Str) (gl : List (Str × GV)) (k : Nat) (TH : Nat → FD) (TX : Nat → Xc → Hh → R D) : Prop where
  fns : ∀ (x : Str) (id n : Nat) (dv : List D), gl.lookup x = some (.fn id n dv) → ∃ (f : Addr) (fd : FuncData) (ps : List Str), mg x = some (.ref f) ∧ PySem.W.keepIn K (.ref f) = true ∧ ps.length = n ∧
    FnHX P w K mg base k f fd ps (fun _ => spT ⟨K, cv, fn, none⟩ n (TH id)) ∧ (n = 1 → FnHX P w K mg base k f fd ps (spTX K cv fn (TX id))) ∧ Binds K fd ps []
structure XOk (X : Cx) (g : G) (cv : Nat → Value) (fn : Nat → Str) (xs : Xs) : Prop where
  N : X.N = g.N
  nd : X.N.Nodup
  sc : X.env.scope = g.sc
  hu : X.A.units + 65 < cLine
  fnT : g.md ≠ .blk → ∀ x, X.fn x = true
  calm : g.calm = true → X.calm = true ∧ xs = none ∧ ∃ k, Room (k + 1) X.A ∧ 1 ≤ k ∧ FnsOk X.prog X.w X.K X.mg X.base cv fn g.gl g.ms k g.T
  gl : ∀ x v, g.gl.lookup x = some v → GlOk X.K X.mg cv x v
  sub : ∀ c1 c2 b, g.sub c1 c2 = some b → PySem.W.exmOne X.K (cv c1) (cv c2) = some b
  isi : ∀ c1 c2 b, g.isi c1 c2 = some b → PySem.W.kitOne X.K (cv c1) (cv c2) = some b ∧ ∃ C, cv c1 = .ref C ∧ ExcC X.K C
  body : g.md = .body → X.stack = X.env :: X.outer ∧ X.env.frame = some X.env.locals
  na : NaOk X.K cv naT
  xf : ∀ c f, (g.xa c).elem f = true → ∃ C, cv c = .ref C ∧ XfC X.K C ∧ PySem.W.findIn X.K (.ref C) (fnm f) = some none
  suite : ∀ y n i, g.md = .suite y (some (n, i)) → X.N[i]? = some n ∧ X.env.scope.names.lookup n = some .local ∧ okNm n = true ∧ ∃ a dd, xs = some (i, a, y, dd) ∧
    (∀ c2 b, g.isi y.cls c2 = some b → CallR X (.builtin "isinstance") (fun vs H Q => ∃ v, vs = [.ref a, v] ∧ (∀ d, dd = some d → ∃ fs, H d = some (.xd fs)) ∧ (∀ u, RelV v u → u = cv c2) ∧ Q (.bl b) H)) ∧
    ∀ f C e te pos, cv y.cls = .ref C → XfC X.K C → PySem.W.findIn X.K (.ref C) (fnm f) = some none → PE X e te → attributeBase e (fnm f) X.env (eval e X.env) = eval e X.env → PE X (.Attribute e (fnm f) pos) (tXf a (cv y.cls) dd C (fnm f) te)
  suiteN : ∀ y, g.md = .suite y none → xs = none
  dig : X.base.NoDigits
  hotN : g.md = .hot → xs = none
  hotB : g.md = .body → ∃ k, L2H.RoomH (k + 1) X.A ∧ FnsHOk X.prog X.w X.K X.mg X.base cv fn g.gl k g.TH g.TX
  hot : g.hotOk = true → ∃ (p : Addr × Obj) (k : Nat), L2H.Hot1 X.A p ∧ p ∈ X.pn ∧ L2H.RoomH (k + 1) X.A ∧ FnsHOk X.prog X.w X.K X.mg X.base cv fn g.gl k g.TH g.TX ∧ ∀ i a y dd, xs = some (i, a, y, dd) → a = p.1 ∧ L2N.Zn (cv y.cls) dd p.2
section
variable {X : Cx} {g : G} {cv : Nat → Value} {fn : Nat → Str} {xs : Xs} {W : WX} {pos : Pos}
theorem e_K {e : Expr} : PE X e (PE_ (FX X cv fn xs) W dK) := ⟨fun _ _ _ _ _ _ ⟨_, _, _, _, _, p⟩ => p.elim⟩
theorem t_K {e : Expr} : PT X e (PT_ (FX X cv fn xs) W tK) := ⟨fun _ _ _ _ _ _ ⟨_, _, _, _, _, p⟩ => p.elim⟩
theorem s_K {e : Stmt} : PS X e (PS_ (FX X cv fn xs) W sK) := ⟨fun _ _ _ _ _ _ ⟨_, _, _, _, _, p⟩ => p.elim⟩
theorem i_K {tg e : Expr} : PI X tg e (PI_ (FX X cv fn xs) W iK) := ⟨fun _ _ _ _ _ _ ⟨_, _, _, _, _, p⟩ => p.elim⟩
theorem g_K {e : Expr} : PG X e (PGD_ (FX X cv fn xs) W gK) := ⟨fun _ _ _ _ _ _ _ _ _ ⟨_, _, _, _, _, _, _, p⟩ => p.elim⟩
theorem okNm_of {x : Str} (h : okNm x = true) : (x == ("__debug__" : Str)) = false ∧ (x == ("__classdict__" : Str)) = false ∧ x ≠ "__name__" := by
  unfold okNm at h
  simp only [Bool.and_eq_true, Bool.not_eq_true'] at h
  exact ⟨h.1.1, h.1.2, fun z => by have := h.2; rw [z] at this; simp at this⟩
theorem glob_of {x : Str} {v : GV} (o : XOk X g cv fn xs) (h : g.glob x = some v) : Gl X x ∧ GlOk X.K X.mg cv x v ∧ okNm x = true ∧ g.gl.lookup x = some v := by
  unfold G.glob at h
  split at h
  · rename_i hk
    split at h
    · rename_i hn
      exact ⟨by unfold Gl Env.kindOf; rw [o.sc]; exact hk, o.gl x v h, hn, h⟩
    · cases h
  · cases h
theorem ix_of {x : Str} {i : Nat} (o : XOk X g cv fn xs) (h : g.ix x = some i) : X.N[i]? = some x := by
  unfold G.ix at h
  rw [o.N]
  obtain ⟨hl, h1, _⟩ := List.findIdx?_eq_some_iff_getElem.mp h
  rw [List.getElem?_eq_getElem hl]
  exact congrArg some (by simpa using h1)
theorem own_of {x : Str} (o : XOk X g cv fn xs) (h : g.own x = true) : Vis X.env.scope x := by
  unfold Vis
  rw [o.sc]
  unfold G.own at h
  split at h
  · exact .inl (by assumption)
  · exact .inr (.inl (by assumption))
  · exact .inr (.inr (by assumption))
  · cases h
theorem star_of {e : Expr} {es : List Expr} {env : Env} (h : isStar e = false) : starEach (e :: es) env = (false, eval e env) :: starEach es env := by
  cases e <;> first | rfl | (cases h)
theorem plain_of {env : Env} : ∀ {es : List Expr}, es.any isStar = false → (backTo pos (starEach es env)).any (·.1) = false
  | [], _ => rfl
  | e :: es, h => by
    rw [List.any_cons, Bool.or_eq_false_iff] at h
    rw [star_of h.1]
    show (false || (backTo pos (starEach es env)).any (·.1)) = false
    rw [plain_of h.2]
    rfl
theorem ixp_of {b : Expr} (h : isSlice b = false) : PlainIx b := by
  intro o i
  cases b <;> first | rfl | (cases h)
end
theorem takesN {X : Cx} : L2N.Takes X (fun _ _ _ _ => False) := fun _ _ ⟨_, _, _, _, _, _, _, _, _, _, _, _, _, _, _, _, z⟩ => z.elim
structure Sd (d : DD) : Prop where
  E : ∀ (X : Cx) (g : G) (cv : Nat → Value) (fn : Nat → Str) (xs : Xs) (W : WX), XOk X g cv fn xs → L2N.Takes X W → ∀ e, PE X e (PE_ (FX X cv fn xs) W (d.E g e))
  T : ∀ (X : Cx) (g : G) (cv : Nat → Value) (fn : Nat → Str) (xs : Xs) (W : WX), XOk X g cv fn xs → L2N.Takes X W → ∀ e, PT X e (PT_ (FX X cv fn xs) W (d.T g e))
  S : ∀ (X : Cx) (g : G) (cv : Nat → Value) (fn : Nat → Str) (xs : Xs) (W : WX), XOk X g cv fn xs → L2N.Takes X W → PassesOwn (model X.prog X.w) X.A X.env X.xe → g.md ≠ .blk → ∀ e, PS X e (PS_ (FX X cv fn xs) W (d.S g e))
section
variable {X : Cx} {g : G} {cv : Nat → Value} {fn : Nat → Str} {xs : Xs} {W : WX} {pos : Pos} {d : DD}
theorem d_A (hd : Sd d) (o : XOk X g cv fn xs) (tk : L2N.Takes X W) : ∀ (es : List Expr), es.any isStar = false → PA X es (PA_ (FX X cv fn xs) W (denA d g es))
  | [], _ => s_aN
  | e :: es, h => by
    rw [List.any_cons, Bool.or_eq_false_iff] at h
    exact s_aC (hd.E X g cv fn xs W o tk e) (d_A hd o tk es h.2) (star_of h.1)
theorem denA_len : ∀ (es : List Expr) (e : Ev) (h : Hh) (ds : List D) (h' : Hh), denA d g es e h = .ok ds h' → ds.length = es.length
  | [], e, h, ds, h', q => by cases q; rfl
  | a :: es, e, h, ds, h', q => by
    unfold denA aC at q
    cases qa : d.E g a e h with
    | stuck => rw [qa] at q; cases q
    | exc x h1 => rw [qa] at q; cases q
    | ok v h1 =>
      rw [qa] at q
      change ((denA d g es e h1).bind fun ds h2 => .ok (v :: ds) h2) = .ok ds h' at q
      cases qb : denA d g es e h1 with
      | stuck => rw [qb] at q; cases q
      | exc x h2 => rw [qb] at q; cases q
      | ok vs h2 =>
        rw [qb] at q
        cases q
        rw [List.length_cons, denA_len es _ _ _ _ qb]
        rfl
theorem d_cb {x : Str} {p : Pos} {id : String} {r : FD} {es : List Expr} {a : Expr} (hd : Sd d) (o : XOk X g cv fn xs) (tk : L2N.Takes X W) (hg : g.glob x = some .blt) (hv : bootBuiltins x = some (.builtin id)) (hc : CallR X (.builtin id) (rN (FX X cv fn xs) r)) (hs : (a :: es).any isStar = false) :
    PE X (.Call (.Name x p) (a :: es) [] pos) (PE_ (FX X cv fn xs) W (dCall r (denA d g (a :: es)) [])) := by
  obtain ⟨gl, ok, nm, _⟩ := glob_of o hg
  obtain ⟨n1, n2, n3⟩ := okNm_of nm
  have hs' := hs
  rw [List.any_cons, Bool.or_eq_false_iff] at hs'
  exact peImp (pe_callB hc gl ok hv (d_A hd o tk _ hs) n3 n1 (star_of hs'.1) (plain_of hs'.2)) fun _ _ _ q => bindN q
theorem d_ct {x : Str} {p : Pos} {id : String} {r : FD} {es : List Expr} {a : Expr} (hd : Sd d) (o : XOk X g cv fn xs) (tk : L2N.Takes X W) (hg : g.glob x = some .blt) (hv : bootBuiltins x = some (.type id)) (hc : CallR X (.type id) (rN (FX X cv fn xs) r)) (hs : (a :: es).any isStar = false) :
    PE X (.Call (.Name x p) (a :: es) [] pos) (PE_ (FX X cv fn xs) W (dCall r (denA d g (a :: es)) [])) := by
  obtain ⟨gl, ok, nm, _⟩ := glob_of o hg
  obtain ⟨n1, n2, n3⟩ := okNm_of nm
  have hs' := hs
  rw [List.any_cons, Bool.or_eq_false_iff] at hs'
  exact peImp (pe_callTy hc gl ok hv (d_A hd o tk _ hs) n3 n1 (star_of hs'.1) (plain_of hs'.2)) fun _ _ _ q => bindN q
theorem seq_str {x y : Str} (h : (x == y) = true) : x = y := by simpa using h
theorem exc_of {y : Xc} {a : Expr} (h : g.exc a = some y) : ∃ n pn i, a = .Name n pn ∧ g.md = .suite y (some (n, i)) := by
  unfold G.exc at h
  split at h
  · rename_i n pn
    split at h
    · rename_i y' n' i' hm
      split at h
      · rename_i hn
        cases h
        cases seq_str hn
        exact ⟨_, _, _, rfl, hm⟩
      · cases h
    · cases h
  · cases h
theorem rxf_dict {K : PySem.W.Frag} {m : Nat → Addr} {N : Nat} {H : Hp} {fs : List (Nat × D)} {dd : Option Addr} (r : RXf K m N H fs dd) : ∀ d, dd = some d → ∃ fs, H d = some (.xd fs) := fun d e => by
  by_cases z : fs = []
  · have := r.1 z; rw [e] at this; cases this
  · obtain ⟨dx, vs, e1, e2, _⟩ := r.2 z
    rw [e] at e1
    cases e1
    exact ⟨vs, e2⟩
theorem d_is {p : Pos} {a b : Expr} (hd : Sd d) (o : XOk X g cv fn xs) (tk : L2N.Takes X W) (hg : g.glob "isinstance" = some .blt) (hs : [a, b].any isStar = false) :
    PE X (.Call (.Name "isinstance" p) [a, b] [] pos) (PE_ (FX X cv fn xs) W (denIs d g a b)) := by
  obtain ⟨gl, ok, nm, _⟩ := glob_of o hg
  obtain ⟨n1, n2, n3⟩ := okNm_of nm
  simp only [List.any_cons, List.any_nil, Bool.or_false, Bool.or_eq_false_iff] at hs
  have ha1 : starEach [a, b] X.env = [(false, eval a X.env), (false, eval b X.env)] := by rw [star_of hs.1, star_of hs.2]; rfl
  have hb1 : starEach [b] X.env = [(false, eval b X.env)] := by rw [star_of hs.2]; rfl
  have hpl : (backTo pos (starEach [b] X.env)).any (·.1) = false := plain_of (by simp [hs.2])
  unfold denIs
  split
  · rename_i y ey
    split
    · rename_i c ec
      unfold isX
      split
      · rename_i k ek
        obtain ⟨n, pn, i', ea, hm⟩ := exc_of ey
        subst ea
        obtain ⟨hi, hloc, hnm, ad, dd, hxs, hcall, _⟩ := o.suite _ _ _ hm
        have hc := hcall c k ek
        -- the class
        obtain ⟨v, hv, hPE⟩ : ∃ v, (∀ u, RelV v u → u = cv c) ∧ PE X b (tC v) := by
          unfold G.cid at ec
          split at ec
          · rename_i z pz
            split at ec
            · rename_i c' hz
              cases ec
              obtain ⟨gz, ⟨C, e1, e2, _⟩, nz, _⟩ := glob_of o hz
              exact ⟨.ref C, fun u r => by rw [e1]; exact r, pe_glob gz e2 rfl (okNm_of nz).1⟩
            · rename_i c' hz
              cases ec
              obtain ⟨gz, ⟨C, e1, e2, e3⟩, nz, _⟩ := glob_of o hz
              exact ⟨.ty C, fun u r => by rw [e1]; exact r, pe_bltn gz e2 e3 rfl (okNm_of nz).2.2 (okNm_of nz).1⟩
            · rename_i c' _ hz
              cases ec
              obtain ⟨gz, ⟨C, e1, e2, _⟩, nz, _⟩ := glob_of o hz
              exact ⟨.ref C, fun u r => by rw [e1]; exact r, pe_glob gz e2 rfl (okNm_of nz).1⟩
            · cases ec
          · cases ec
        have hvis : PE X (.Name n pn) (fun σ H Q => σ[i']? = some (some (.ref ad)) ∧ Q (.ref ad) H) :=
          peImp (pe_var hi (.inl hloc) (okNm_of hnm).1 (okNm_of hnm).2.1) fun σ H Q q => ⟨_, q.1, q.2⟩
        refine peImp (pe_callB hc gl ok (by rfl) (pa2 hvis hPE ha1 hb1) n3 n1 (by rw [ha1, hb1]) hpl) fun σ H Q q => ?_
        obtain ⟨m, e, h, rh, re, p⟩ := q
        obtain ⟨e1, e2⟩ := re.exc i' ad y dd hxs
        exact ⟨e1, v, rfl, rxf_dict e2, hv, p.here rh (.bl _)⟩
      · exact e_K
    · exact e_K
  · split
    · rename_i t pt
      split
      · rename_i ty h1 h2
        obtain ⟨gt, mt, nt, _⟩ := glob_of o h1
        have key : ∃ tn : String, ty.nm = tn ∧ bootBuiltins t = some (.type tn) := by
          unfold tyOf at h2
          split at h2
          · rename_i z; cases h2; rw [seq_str z]; exact ⟨_, rfl, by rfl⟩
          · split at h2
            · rename_i z; cases h2; rw [seq_str z]; exact ⟨_, rfl, by rfl⟩
            · split at h2
              · rename_i z; cases h2; rw [seq_str z]; exact ⟨_, rfl, by rfl⟩
              · split at h2
                · rename_i z; cases h2; rw [seq_str z]; exact ⟨_, rfl, by rfl⟩
                · split at h2
                  · rename_i z; cases h2; rw [seq_str z]; exact ⟨_, rfl, by rfl⟩
                  · cases h2
        obtain ⟨tn, k1, k2⟩ := key
        exact s_is k1 gl ok (pe_bltn (v := .ty tn) gt mt k2 rfl (okNm_of nt).2.2 (okNm_of nt).1) (hd.E X g cv fn xs W o tk a) ha1 hb1 hpl
      · exact e_K
    · exact e_K
end
end Mn
namespace Mn
open PySem L2
section
variable {X : Cx} {g : G} {cv : Nat → Value} {fn : Nat → Str} {xs : Xs} {W : WX} {pos : Pos} {d : DD}
theorem beqs {x y : Str} (h : (x == y) = true) : x = y := by simpa using h
theorem rng_rd {K : PySem.W.Frag} {m : Nat → Addr} {N : Nat} {H : Hp} {lo : Int} {n : Nat} : RDs K m N H ((List.range n).map fun (i : Nat) => D.int (lo + (i : Int))) ((List.range n).map fun (i : Nat) => V.int (lo + (i : Int))) := by
  generalize List.range n = l
  induction l with
  | nil => exact .nil
  | cons a l ih => exact .cons (.int _) ih
theorem d_L {p : Pos} {a : Expr} (hd : Sd d) (o : XOk X g cv fn xs) (tk : L2N.Takes X W) (hg : g.glob "list" = some .blt) (hs : [a].any isStar = false) :
    PE X (.Call (.Name "list" p) [a] [] pos) (PE_ (FX X cv fn xs) W (denL d g a)) := by
  have plain : PE X (.Call (.Name "list" p) [a] [] pos) (PE_ (FX X cv fn xs) W (dCall fList (denA d g [a]) [])) := d_ct hd o tk hg (by rfl) c_list hs
  obtain ⟨gl, ml, nl, _⟩ := glob_of o hg
  unfold denL
  split
  · split
    · rename_i b pos2 oo hb
      obtain ⟨gy, my, ny, _⟩ := glob_of o hb
      split
      · exact plain
      · rename_i hst
        have hst := Bool.eq_false_iff.mpr hst
        split
        · rename_i z
          cases beqs z
          split
          · rename_i hc
            obtain ⟨cm, hxs, _⟩ := o.calm hc
            refine peImp (pe_lRev cm gl ml gy my (hd.E X g cv fn xs W o tk b) (star_of hst)) fun σ H Q q => ?_
            obtain ⟨m, e, h, rh, re, p⟩ := q
            refine ⟨m, e, h, rh, re, ?_⟩
            have p' := p
            unfold dCall denA at p'
            unfold aC denA aN at p'
            cases qb : d.E g b e h with
            | stuck => rw [qb] at p'; exact p'.elim
            | exc x h1 => rw [qb] at p'; exact p'
            | ok v h1 =>
              rw [qb] at p'
              intro m1 H1 w g1 rh1 r1
              have p1 : PO (FX X cv fn xs) W (rdR (FX X cv fn xs)) σ m1 h1 H1 (fLRev [v] h1) Q := PO.base (r := fLRev [v] h1) p' g1
              unfold fLRev at p1
              split at p1
              · rename_i n e0
                cases e0
                cases r1
                split at p1
                · rename_i ys ey
                  obtain ⟨_, vs, sq, r⟩ := rh1.lst ey
                  exact ⟨_, vs, rfl, sq, p1.new rh1 r.reverse⟩
                · exact p1.elim
              · exact p1.elim
          · exact e_K
        · split
          · rename_i z
            cases beqs z
            split
            · rename_i hc
              obtain ⟨cm, hxs, _⟩ := o.calm hc
              refine peImp (pe_listRg cm gl ml (prg_1 gy my (hd.E X g cv fn xs W o tk b) (star_of hst)) rfl) fun σ H Q q => ?_
              obtain ⟨m, e, h, rh, re, p⟩ := q
              refine ⟨m, e, h, rh, re, ?_⟩
              have p' := p
              unfold dCall denA at p'
              unfold aC denA aN at p'
              cases qb : d.E g b e h with
              | stuck => rw [qb] at p'; exact p'.elim
              | exc x h1 => rw [qb] at p'; exact p'
              | ok v h1 =>
                rw [qb] at p'
                intro m1 H1 w g1 rh1 r1
                have p1 : PO (FX X cv fn xs) W (rdR (FX X cv fn xs)) σ m1 h1 H1 (fLRng [v] h1) Q := PO.base (r := fLRng [v] h1) p' g1
                unfold fLRng at p1
                split at p1
                · rename_i n e0
                  cases e0
                  cases r1
                  split at p1
                  · rename_i hb
                    have b2 : n < 16777216 := hb.2
                    refine ⟨_, rfl, ⟨by omega, by omega, hb.1, by omega, by omega⟩, ?_⟩
                    have e3 : rgV 0 n = (rgV 0 n) := rfl
                    refine p1.new rh1 ?_
                    unfold rgV rngD
                    rw [Int.sub_zero]
                    exact rng_rd
                  · exact p1.elim
                · rename_i e0; cases e0
                · exact p1.elim
            · exact e_K
          · exact plain
    · exact plain
  · split
    · rename_i b c pos2 oo hb
      obtain ⟨gy, my, ny, _⟩ := glob_of o hb
      split
      · exact plain
      · rename_i hst
        simp only [not_or, Bool.not_eq_true] at hst
        split
        · rename_i z
          cases beqs z
          split
          · rename_i hc
            obtain ⟨cm, hxs, _⟩ := o.calm hc
            refine peImp (pe_listRg cm gl ml (prg_2 gy my (hd.E X g cv fn xs W o tk b) (hd.E X g cv fn xs W o tk c) (star_of hst.1) (star_of hst.2) (by rw [star_of hst.2]; rfl)) rfl) fun σ H Q q => ?_
            obtain ⟨m, e, h, rh, re, p⟩ := q
            refine ⟨m, e, h, rh, re, ?_⟩
            have p' := p
            unfold dCall denA aC denA at p'
            unfold aC denA aN at p'
            cases qb : d.E g b e h with
            | stuck => rw [qb] at p'; exact p'.elim
            | exc x h1 => rw [qb] at p'; exact p'
            | ok v h1 =>
              rw [qb] at p'
              intro m1 H1 w g1 rh1 r1
              refine ⟨m1, e, h1, rh1, g1.re re, ?_⟩
              change PO _ _ _ _ _ _ _ ((((d.E g c e h1).bind fun d2 h2 => R.ok [d2] h2).bind fun ds h2 => R.ok (v :: ds) h2).bind fun ds h1 => fLRng (ds ++ []) h1) Q at p'
              cases qc : d.E g c e h1 with
              | stuck => rw [qc] at p'; exact p'.elim
              | exc x h1 => rw [qc] at p'; exact PO.base (r := R.exc x h1) p' g1
              | ok v2 h2 =>
                rw [qc] at p'
                intro m2 H2 w2 g2 rh2 r2
                have p1 : PO (FX X cv fn xs) W (rdR (FX X cv fn xs)) σ m2 h2 H2 (fLRng [v, v2] h2) Q := PO.base (r := fLRng [v, v2] h2) p' (g1.trans g2)
                have r1' := g2.rd r1
                unfold fLRng at p1
                split at p1
                · rename_i e0; cases e0
                · rename_i lo n e0
                  cases e0
                  cases r1'
                  cases r2
                  split at p1
                  · rename_i hb
                    have b2 : (n - lo).toNat ≤ 16777216 := hb.2.2.2.2
                    refine ⟨_, _, rfl, rfl, ⟨hb.1, hb.2.1, hb.2.2.1, hb.2.2.2.1, by omega⟩, ?_⟩
                    refine p1.new rh2 ?_
                    unfold rgV rngD
                    exact rng_rd
                  · exact p1.elim
                · exact p1.elim
          · exact e_K
        · exact plain
    · exact plain
  · exact plain
theorem d_Len {p : Pos} {a : Expr} (hd : Sd d) (o : XOk X g cv fn xs) (tk : L2N.Takes X W) (hg : g.glob "len" = some .blt) (hs : [a].any isStar = false) :
    PE X (.Call (.Name "len" p) [a] [] pos) (PE_ (FX X cv fn xs) W (denLen d g a)) := by
  have plain : PE X (.Call (.Name "len" p) [a] [] pos) (PE_ (FX X cv fn xs) W (dCall fLen (denA d g [a]) [])) := d_cb hd o tk hg (by rfl) c_len hs
  obtain ⟨gl, ml, nl, _⟩ := glob_of o hg
  unfold denLen
  split
  · split
    · rename_i b pos2 oo hb
      obtain ⟨gy, my, ny, _⟩ := glob_of o hb
      split
      · exact plain
      · rename_i hst
        have hst := Bool.eq_false_iff.mpr hst
        split
        · rename_i z
          cases beqs z
          split
          · rename_i hc
            obtain ⟨cm, hxs, _⟩ := o.calm hc
            refine peImp (pe_setK cm gl ml gy my (hd.E X g cv fn xs W o tk b) (star_of hst)) fun σ H Q q => ?_
            obtain ⟨m, e, h, rh, re, p⟩ := q
            refine ⟨m, e, h, rh, re, ?_⟩
            have p' := p
            unfold dCall denA at p'
            unfold aC denA aN at p'
            cases qb : d.E g b e h with
            | stuck => rw [qb] at p'; exact p'.elim
            | exc x h1 => rw [qb] at p'; exact p'
            | ok v h1 =>
              rw [qb] at p'
              intro m1 H1 w g1 rh1 r1
              have p1 : PO (FX X cv fn xs) W (rdR (FX X cv fn xs)) σ m1 h1 H1 (fLenS [v] h1) Q := PO.base (r := fLenS [v] h1) p' g1
              unfold fLenS at p1
              split at p1
              · rename_i n e0
                cases e0
                cases r1
                split at p1
                · rename_i ys ey
                  split at p1
                  · rename_i ks ek
                    split at p1
                    · rename_i h4
                      obtain ⟨_, vs, sq, r⟩ := rh1.lst ey
                      have ev := dKeys_rd r ek
                      subst ev
                      exact ⟨_, ks, rfl, sq, h4, p1 m1 H1 _ Ge.refl rh1 (.int _)⟩
                    · exact p1.elim
                  · exact p1.elim
                · exact p1.elim
              · exact p1.elim
          · exact e_K
        · exact plain
    · exact plain
  · exact plain
theorem pe_ite {e : Expr} {c : Prop} [Decidable c] {fa fb : ED} (h1 : c → PE X e (PE_ (FX X cv fn xs) W fa)) (h2 : ¬ c → PE X e (PE_ (FX X cv fn xs) W fb)) : PE X e (PE_ (FX X cv fn xs) W (if c then fa else fb)) := by
  by_cases z : c
  · rw [if_pos z]; exact h1 z
  · rw [if_neg z]; exact h2 z
theorem d_B {x : Str} {p : Pos} {es : List Expr} (hd : Sd d) (o : XOk X g cv fn xs) (tk : L2N.Takes X W) (hg : g.glob x = some .blt) (hs : es.any isStar = false) :
    PE X (.Call (.Name x p) es [] pos) (PE_ (FX X cv fn xs) W (denB d g x es)) := by
  unfold denB
  split
  · refine pe_ite (fun z => by cases beqs z; exact d_Len hd o tk hg hs) fun _ => ?_
    refine pe_ite (fun z => by cases beqs z; exact d_cb hd o tk hg (by rfl) c_abs hs) fun _ => ?_
    refine pe_ite (fun z => by cases beqs z; exact d_ct hd o tk hg (by rfl) c_int hs) fun _ => ?_
    refine pe_ite (fun z => by cases beqs z; exact pe_ite (fun hc => d_ct hd o tk hg (by rfl) (c_strL (o.calm hc).1 o.dig) hs) fun _ => d_ct hd o tk hg (by rfl) c_str hs) fun _ => ?_
    refine pe_ite (fun z => by cases beqs z; exact d_L hd o tk hg hs) fun _ => ?_
    refine pe_ite (fun z => by cases beqs z; exact d_ct hd o tk hg (by rfl) c_tuple hs) fun _ => ?_
    refine pe_ite (fun z => by cases beqs z; exact d_ct hd o tk hg (by rfl) c_rng1 hs) fun _ => ?_
    refine pe_ite (fun hc => ?_) fun _ => e_K
    have hc' := (o.calm hc).1
    refine pe_ite (fun z => by cases beqs z; exact d_cb hd o tk hg (by rfl) (c_sum hc') hs) fun _ => ?_
    refine pe_ite (fun z => by cases beqs z; exact d_cb hd o tk hg (by rfl) (c_all hc') hs) fun _ => ?_
    refine pe_ite (fun z => by cases beqs z; exact d_cb hd o tk hg (by rfl) (c_any hc') hs) fun _ => ?_
    exact pe_ite (fun z => by cases beqs z; exact d_cb hd o tk hg (by rfl) c_sorted hs) fun _ => e_K
  · split
    · rename_i z; cases beqs z; exact d_is hd o tk hg hs
    · split
      · rename_i hc
        have hc' := (o.calm hc).1
        split
        · rename_i z; cases beqs z; exact d_cb hd o tk hg (by rfl) (c_max hc') hs
        · split
          · rename_i z; cases beqs z; exact d_cb hd o tk hg (by rfl) (c_min hc') hs
          · exact e_K
      · exact e_K
  · exact e_K
theorem d_HC {x : Str} {p : Pos} {id n : Nat} {dv : List D} {es : List Expr} (hd : Sd d) (o : XOk X g cv fn xs) (tk : L2N.Takes X W) (hg : g.glob x = some (.fn id n dv)) (hs : es.any isStar = false) : PE X (.Call (.Name x p) es [] pos) (PE_ (FX X cv fn xs) W (denHC d g id n es)) := by
  unfold denHC
  refine pe_ite (fun hh => ?_) fun _ => e_K
  obtain ⟨gl, _, nm, lk⟩ := glob_of o hg
  obtain ⟨n1, n2, n3⟩ := okNm_of nm
  obtain ⟨pp, k, h1, hp, hr, F, hx⟩ := o.hot hh
  obtain ⟨f, fd, ps, m1, m2, m3, m4, m5, m6⟩ := F.fns x id n dv lk
  have hr' := hr.mono (Nat.le_succ k)
  cases es with
  | nil => exact e_K
  | cons a r =>
    have hs' := hs
    rw [List.any_cons, Bool.or_eq_false_iff] at hs'
    dsimp only
    split
    · rename_i y ey
      refine pe_ite (fun hc => ?_) fun _ => e_K
      obtain ⟨hn, rfl⟩ := hc
      obtain ⟨nn, pn, i', ea, hm⟩ := exc_of ey
      subst ea
      obtain ⟨hi, hloc, hnm, ad, dd, hxs, _, _⟩ := o.suite _ _ _ hm
      obtain ⟨e1, e2⟩ := hx _ _ _ _ hxs
      have hvis : PE X (.Name nn pn) (fun σ H Q => σ[i']? = some (some (.ref ad)) ∧ Q (.ref ad) H) :=
        peImp (pe_var hi (.inl hloc) (okNm_of hnm).1 (okNm_of hnm).2.1) fun σ H Q q => ⟨_, q.1, q.2⟩
      have hst : starEach [.Name nn pn] X.env = [(false, eval (.Name nn pn) X.env)] := star_of hs'.1
      exact s_callXX (m5 hn) hr' h1 hp hxs e1 e2 gl m1 m2 m6 tk (pa1 hvis hst) n1 hst
    · refine pe_ite (fun hl => ?_) fun _ => e_K
      subst m3
      exact s_callHX m4 hr' h1 hp gl m1 m2 m6 hl (fun e h ds h' q => denA_len _ _ _ _ _ q) tk (d_A hd o tk _ hs) n1 (star_of hs'.1) (plain_of hs'.2)
theorem d_C {x : Str} {p : Pos} {es : List Expr} (hd : Sd d) (o : XOk X g cv fn xs) (tk : L2N.Takes X W) : PE X (.Call (.Name x p) es [] pos) (PE_ (FX X cv fn xs) W (denC d g x es)) := by
  unfold denC
  split
  · exact e_K
  · rename_i hs
    have hs : es.any isStar = false := by simpa using hs
    split
    · rename_i id n dv hg
      split
      · rename_i hc
        obtain ⟨hc, hl, hn⟩ := hc
        obtain ⟨gl, _, nm, lk⟩ := glob_of o hg
        obtain ⟨n1, n2, n3⟩ := okNm_of nm
        obtain ⟨cm, hxs, k, hr, _, fns⟩ := o.calm hc
        obtain ⟨f, fd, ps, dvs, h1, h2, h3, h4, h5, h7⟩ := fns.fns x id n dv lk
        have hr := hr.mono (Nat.le_succ k)
        subst hxs
        have hlen : dv.length = dvs.length := (h5 (fun _ => 0) 0 (fun _ => none)).length
        obtain ⟨ws, hv, hb⟩ := h7 (dv.length - (n - es.length)) (Nat.sub_le _ _)
        have hdd : ∀ m N H, RDs X.K m N H (dv.drop (dv.length - (n - es.length))) (dvs.drop (dv.length - (n - es.length))) := fun m N H => (h5 m N H).drop _
        have hq : (dvs.drop (dv.length - (n - es.length))).length = n - es.length := by rw [List.length_drop, ← hlen]; omega
        subst h3
        cases es with
        | nil =>
          exact s_call0 h4 hr gl h1 h2 hb hv hdd (by rw [hq]; exact Nat.sub_zero _) tk n1
        | cons a es =>
          have hs' := hs
          rw [List.any_cons, Bool.or_eq_false_iff] at hs'
          exact s_call h4 hr gl h1 h2 hb hv hdd (by rw [hq]; omega) (fun e h ds h' q => denA_len _ _ _ _ _ q) tk (d_A hd o tk _ hs) n1 (star_of hs'.1) (plain_of hs'.2)
      · exact d_HC hd o tk hg hs
    · rename_i f hg
      split
      · rename_i hf
        obtain ⟨rfl, hne⟩ := hf
        obtain ⟨gl, hm, nm, lk⟩ := glob_of o hg
        obtain ⟨n1, n2, n3⟩ := okNm_of nm
        cases es with
        | nil => exact absurd rfl hne
        | cons a es =>
          have hs' := hs
          rw [List.any_cons, Bool.or_eq_false_iff] at hs'
          exact peImp (pe_callBfun c_gcd gl hm (d_A hd o tk _ hs) n1 (star_of hs'.1) (plain_of hs'.2)) fun _ _ _ q => bindN q
      · exact e_K
    · rename_i hg
      exact d_B hd o tk hg hs
    · rename_i c id n dv pc ks hg
      split
      · rename_i hc
        obtain ⟨hc, hp⟩ := hc
        obtain ⟨gl, _, nm, lk⟩ := glob_of o hg
        obtain ⟨cm, hxs, k, hr, _, fns⟩ := o.calm hc
        obtain ⟨C, gI, fd, ps, dvs, h1, h2, h3, h4, h5, h6, h7, h8, _⟩ := fns.cls x c id n dv pc ks lk
        subst hxs
        obtain ⟨l1, l2, ws, hv, hb⟩ := h8 es.length hp
        have hlen : dv.length = dvs.length := (h7 (fun _ => 0) 0 (fun _ => none)).length
        have hs' : es.any isStar = false := by simpa using hs
        subst h5
        refine s_mk ⟨h2, h3, h4, h6, hr⟩ gl h1 (d_A hd o tk _ hs') tk (fun e h ds h' q => denA_len _ _ _ _ _ q) (fun z => by rw [z]; rfl) hb hv (fun m N H => (h7 m N H).drop _) ?_ (fun e r z => ?_) (okNm_of nm).1
        · rw [List.length_drop, ← hlen]; omega
        · subst z
          rw [List.any_cons, Bool.or_eq_false_iff] at hs'
          exact ⟨star_of hs'.1, plain_of hs'.2⟩
      · exact e_K
    · exact e_K
theorem kwn_of {env : Env} : ∀ {kws : List Keyword} {l : List Str}, kwn kws = some l → (backToKw pos (keywordEach kws env)).all (·.1.isSome) = true ∧ (backToKw pos (keywordEach kws env)).filterMap (·.1) = l ∧ (backToKw pos (keywordEach kws env)).any (·.1.isNone) = false ∧ kws.length = l.length
  | [], l, h => by cases h; exact ⟨rfl, rfl, rfl, rfl⟩
  | ⟨nm, e, kp⟩ :: kws, l, h => by
    unfold kwn at h
    dsimp only at h
    split at h
    · rename_i x l' hl
      cases h
      obtain ⟨a, b, c, d⟩ := kwn_of (env := env) hl
      refine ⟨?_, ?_, ?_, congrArg Nat.succ d⟩
      · show (true && (backToKw pos (keywordEach kws env)).all (·.1.isSome)) = true
        rw [a]; rfl
      · show x :: (backToKw pos (keywordEach kws env)).filterMap (·.1) = x :: l'
        rw [b]
      · show (false || (backToKw pos (keywordEach kws env)).any (·.1.isNone)) = false
        rw [c]; rfl
    · cases h
theorem d_PK (hd : Sd d) (o : XOk X g cv fn xs) (tk : L2N.Takes X W) : ∀ (kws : List Keyword), PK X kws (PA_ (FX X cv fn xs) W (denA d g (kws.map (·.value))))
  | [] => pk_D0
  | ⟨nm, e, kp⟩ :: kws => pk_D (hd.E X g cv fn xs W o tk e) (d_PK hd o tk kws)
theorem d_K {x : Str} {p : Pos} {es : List Expr} {kws : List Keyword} (hd : Sd d) (o : XOk X g cv fn xs) (tk : L2N.Takes X W) : PE X (.Call (.Name x p) es kws pos) (PE_ (FX X cv fn xs) W (denK d g x es kws)) := by
  unfold denK
  split
  · rename_i c id n dv pc ks hg
    split
    · rename_i l hl
      split
      · rename_i t ht
        split
        · rename_i hc
          obtain ⟨hc, hs⟩ := hc
          obtain ⟨gl, _, nm, lk⟩ := glob_of o hg
          obtain ⟨cm, hxs, k, hr, _, fns⟩ := o.calm hc
          obtain ⟨C, gI, fd, ps, dvs, h1, h2, h3, h4, h5, h6, h7, h8, h10⟩ := fns.cls x c id n dv pc ks lk
          subst hxs
          have htm := List.mem_of_find?_eq_some ht
          have htp := List.find?_some ht
          simp only [Bool.and_eq_true] at htp
          obtain ⟨t1, t2⟩ := htp
          have t1 : t.1 = es.length := by simpa using t1
          have t2 : t.2.1 = l := by simpa using t2
          obtain ⟨nvs, mv, h9, hb, hn⟩ := h10 t htm
          rw [t1, t2] at hb
          rw [t1, t2] at hn
          obtain ⟨k1, k2, k3, k4⟩ := kwn_of (pos := pos) (env := X.env) hl
          subst h5
          have hpl1 : (backTo pos (starEach es X.env)).any (·.1) = false := plain_of hs
          refine s_mkK ⟨h2, h3, h4, h6, hr⟩ gl h1 (d_A hd o tk _ hs) (d_PK hd o tk kws) tk (fun e h ds h' q => denA_len _ _ _ _ _ q) (fun e h ds h' q => (denA_len _ _ _ _ _ q).trans ((List.length_map ..).trans k4)) (fun z => by rw [z]; rfl) hb h9 hn (fun e r z => ?_) k1 k2 (by rw [hpl1, k3]; rfl) (okNm_of nm).1
          subst z
          rw [List.any_cons, Bool.or_eq_false_iff] at hs
          exact star_of hs.1
        · exact e_K
      · exact e_K
    · exact e_K
  · exact e_K
theorem tyV_L {T : Fx} {m : Nat → Addr} {h : Hh} {H : Hp} {x : D} {v : V} (rh : RH T m h H) (r : RD T.K m h.length H x v) (c : chkL x h = true) : tyV T.K "list" v H := by
  cases x with
  | ref n =>
    cases r
    obtain ⟨ds, e⟩ := Option.isSome_iff_exists.mp (show (lstAt h n).isSome = true from c)
    obtain ⟨_, vs, q, _⟩ := rh.lst e
    exact .inl ⟨rfl, vs, q⟩
  | _ => cases c
theorem tyV_S {T : Fx} {m : Nat → Addr} {h : Hh} {H : Hp} {x : D} {v : V} (r : RD T.K m h.length H x v) (c : chkS x h = true) : tyV T.K "str" v H := by
  cases x with
  | str n =>
    cases r
    rfl
  | _ => cases c
theorem base_of {oe : Expr} {m : Str} {env : Env} (h : okBase oe = true) : attributeBase oe m env (eval oe env) = eval oe env := by
  cases oe with
  | Call f args kws p => cases f <;> cases args <;> first | rfl | (cases h; done)
  | Name x p => rfl
  | Attribute a b c => rfl
  | Subscript a b c => rfl
  | Constant a b c => rfl
  | List a b => rfl
  | _ => cases h
theorem few_of {env : Env} : ∀ {es : List Expr}, es.any isStar = false → (backTo pos (starEach es env)).all (fun x => !x.1) = true
  | [], _ => rfl
  | e :: es, h => by
    rw [List.any_cons, Bool.or_eq_false_iff] at h
    rw [star_of h.1]
    show (!false && (backTo pos (starEach es env)).all (fun x => !x.1)) = true
    rw [few_of h.2]
    rfl
theorem m_rd {c : D → Hh → Bool} {f : D → List D → Hh → R D} {fa : ED} {fs : AD} {n : String} {σ : L2.St} {H : Hp} {Q : VK} (ht : ∀ m h H x v, RH (FX X cv fn xs) m h H → RD X.K m h.length H x v → c x h = true → tyV X.K n v H) (q : PE_ (FX X cv fn xs) W (dM c f fa fs) σ H Q) :
    PE_ (FX X cv fn xs) W fa σ H fun x H1 => tyV X.K n x H1 ∧ PA_ (FX X cv fn xs) W fs σ H1 fun ys H2 => rM (FX X cv fn xs) f x ys H2 Q := by
  obtain ⟨m, e, h, rh, re, p⟩ := q
  refine ⟨m, e, h, rh, re, p.bind fun dx h1 m1 H1 xv g1 rh1 rx p1 => ?_⟩
  split at p1
  · rename_i hc
    exact ⟨ht _ _ _ _ _ rh1 rx hc, m1, e, h1, rh1, g1.re re, p1.bind fun ds h2 m2 H2 ys g2 rh2 ry p2 => ⟨W, σ, m2, h2, dx, ds, rh2, g2.rd rx, ry, p2⟩⟩
  · exact p1.elim
theorem d_mt {oe : Expr} {m : Str} {apos : Pos} {n id : String} {c : D → Hh → Bool} {f : D → List D → Hh → R D} {a : Expr} {es : List Expr} (hd : Sd d) (o : XOk X g cv fn xs) (tk : L2N.Takes X W) (hs : (a :: es).any isStar = false) (hl : (a :: es).length < 20) (hp : (apos.endLine == pos.line) = true) (hb : okBase oe = true)
    (pa : PlainAttrs n) (sl : Slot n m id) (ty : typeOf (.builtin id) = pure (.type "method_descriptor")) (hm : MtR X id (rM (FX X cv fn xs) f)) (ht : ∀ m h H x v, RH (FX X cv fn xs) m h H → RD X.K m h.length H x v → c x h = true → tyV X.K n v H) :
    PE X (.Call (.Attribute oe m apos) (a :: es) [] pos) (PE_ (FX X cv fn xs) W (dM c f (d.E g oe) (denA d g (a :: es)))) := by
  have hs' := hs
  rw [List.any_cons, Bool.or_eq_false_iff] at hs'
  refine peImp (pe_bm pa sl ty hm (hd.E X g cv fn xs W o tk oe) (d_A hd o tk _ hs) (base_of hb) ?_ hp (star_of hs'.1) (plain_of hs'.2)) fun σ H Q q => m_rd ht q
  rw [few_of hs]
  have : decide ((a :: es).length + ([] : List Keyword).length + (if ([] : List Keyword).isEmpty = true then 0 else 1) < 30) = true := decide_eq_true (by
    have e1 : ([] : List Keyword).isEmpty = true := rfl
    rw [if_pos e1]
    simp only [List.length_nil] at *
    omega)
  rw [this]
  rfl
theorem d_mt0 {oe : Expr} {m : Str} {apos : Pos} {n id : String} {c : D → Hh → Bool} {f : D → List D → Hh → R D} (hd : Sd d) (o : XOk X g cv fn xs) (tk : L2N.Takes X W) (hp : (apos.endLine == pos.line) = true) (hb : okBase oe = true)
    (pa : PlainAttrs n) (sl : Slot n m id) (ty : typeOf (.builtin id) = pure (.type "method_descriptor")) (hm : MtR X id (rM (FX X cv fn xs) f)) (ht : ∀ m h H x v, RH (FX X cv fn xs) m h H → RD X.K m h.length H x v → c x h = true → tyV X.K n v H) :
    PE X (.Call (.Attribute oe m apos) [] [] pos) (PE_ (FX X cv fn xs) W (dM c f (d.E g oe) aN)) := by
  refine peImp (pe_bm0 pa sl ty hm (hd.E X g cv fn xs W o tk oe) (base_of hb) hp) fun σ H Q q => ?_
  obtain ⟨m, e, h, rh, re, p⟩ := q
  refine ⟨m, e, h, rh, re, p.bind fun dx h1 m1 H1 xv g1 rh1 rx p1 => ?_⟩
  split at p1
  · rename_i hc
    exact ⟨ht _ _ _ _ _ rh1 rx hc, W, σ, m1, h1, dx, [], rh1, rx, .nil, p1⟩
  · exact p1.elim
theorem few_form {es : List Expr} {env : Env} (hs : es.any isStar = false) (hl : es.length < 20) : methodCallForm (es.length + ([] : List Keyword).length) (backTo pos (starEach es env)) (backToKw pos (keywordEach [] env)) = true := by
  unfold methodCallForm
  rw [few_of hs]
  show (true && true && decide (es.length + 0 + 0 < 30)) = true
  simp only [Bool.true_and, Nat.add_zero]
  exact decide_eq_true (by omega)
theorem mcall_eq {oe : Expr} {m : Str} {apos : Pos} {es : List Expr} {env : Env} (hb : okBase oe = true) (hs : es.any isStar = false) (hl : es.length < 20) (hp : (apos.endLine == pos.line) = true) : eval (.Call (.Attribute oe m apos) es [] pos) env = (do
      let ov ← eval oe env
      standAt apos.atName
      let (f, first) ← holding [ov] (getMethod ov m (plainOf oe env))
      callWith pos f first (backTo pos (starEach es env)) (backToKw pos (keywordEach [] env))) := by
  rw [PySem.arm_eval_Call, base_of hb]
  refine congrArg _ (funext fun ov => congrArg _ (funext fun _ => ?_))
  exact mcall_line (few_form hs hl) hp
theorem mt_of {nw : Nat} : ∀ {l : List (Nat × Nat × Nat × List D)} {c : Nat} {f : FD}, (g.mt nw l).lookup c = some f → ∃ e ∈ l, e.1 = c ∧ nw + 1 ≤ e.2.2.1 ∧ e.2.2.1 - (nw + 1) ≤ e.2.2.2.length ∧ f = mtF (g.T e.2.1) (e.2.2.2.drop (e.2.2.2.length - (e.2.2.1 - (nw + 1))))
  | [], c, f, h => by cases h
  | (c', id, n, dv) :: r, c, f, h => by
    unfold G.mt at h
    split at h
    · rename_i hc
      rw [List.lookup_cons] at h
      cases hb : c == c' with
      | true =>
        rw [hb] at h
        cases h
        have : c = c' := by simpa using hb
        subst this
        exact ⟨_, .head _, rfl, hc.1, hc.2, rfl⟩
      | false =>
        rw [hb] at h
        obtain ⟨e, h1, h2⟩ := mt_of h
        exact ⟨e, .tail _ h1, h2⟩
    · obtain ⟨e, h1, h2⟩ := mt_of h
      exact ⟨e, .tail _ h1, h2⟩
theorem d_MU {oe : Expr} {m : Str} {apos : Pos} {es : List Expr} {l : List (Nat × Nat × Nat × List D)} (hd : Sd d) (o : XOk X g cv fn xs) (tk : L2N.Takes X W) (hs : es.any isStar = false) (hl : es.length < 20) (hp : (apos.endLine == pos.line) = true) (hb : okBase oe = true) (hc : g.calm = true) (hm : g.ms.lookup m = some l) :
    PE X (.Call (.Attribute oe m apos) es [] pos) (PE_ (FX X cv fn xs) W (dMe (g.mt es.length l) (d.E g oe) (denA d g es))) := by
  obtain ⟨cm, hxs, k, hr, _, fns⟩ := o.calm hc
  subst hxs
  refine s_meth (hd.E X g cv fn none W o tk oe) (d_A hd o tk _ hs) tk (fun e h ds h' q => denA_len _ _ _ _ _ q) (fun z => by rw [z]; rfl) (fun c f hf => ?_) (fun e r z => ?_) (mcall_eq hb hs hl hp)
  · obtain ⟨en, he, rfl, l1, l2, rfl⟩ := mt_of hf
    obtain ⟨C, gm, fd, ps, dvs, h1, h2, h3, h4, h5, h6⟩ := fns.mts m l hm en he
    have hlen : en.2.2.2.length = dvs.length := (h5 (fun _ => 0) 0 (fun _ => none)).length
    obtain ⟨ws, hv, hbd⟩ := h6 (en.2.2.2.length - (en.2.2.1 - (es.length + 1))) (Nat.sub_le _ _)
    rw [mN_of (by omega)] at h3
    rw [mN_of (by omega), ← h3] at h4
    have h2 := h2.meth (by omega)
    exact ⟨C, gm, k, fd, ps, g.T en.2.1, _, _, ws, h1, h2, h4, hr.mono (Nat.le_succ k), hbd, hv, fun m N H => (h5 m N H).drop _, by rw [List.length_drop, ← hlen]; omega, rfl⟩
  · subst z
    rw [List.any_cons, Bool.or_eq_false_iff] at hs
    exact ⟨star_of hs.1, plain_of hs.2⟩
theorem d_M {oe : Expr} {m : Str} {apos : Pos} {es : List Expr} (hd : Sd d) (o : XOk X g cv fn xs) (tk : L2N.Takes X W) : PE X (.Call (.Attribute oe m apos) es [] pos) (PE_ (FX X cv fn xs) W (denM d g oe m apos pos es)) := by
  have hu65 : X.A.units + 65 < cLine := o.hu
  unfold denM
  split
  · rename_i hc
    obtain ⟨hs, hl', hp, hb⟩ := hc
    split
    · rename_i q eq
      have hl := hl'
      cases es with
      | nil =>
        unfold mtTab at eq
        simp only [List.length_nil, ne_eq, not_true_eq_false, and_false, if_false, if_true, and_true] at eq
        split at eq
        · rename_i hm
          cases beqs hm
          cases eq
          exact d_mt0 hd o tk hp hb PySem.F.plainAttrs_list PySem.F.slot_list_pop PySem.F.type_list_pop m_pop fun _ _ _ _ _ => tyV_L
        · split at eq
          · rename_i hm
            cases beqs hm
            cases eq
            exact d_mt0 hd o tk hp hb PySem.F.plainAttrs_list PySem.F.slot_list_reverse PySem.F.type_list_reverse m_rev fun _ _ _ _ _ => tyV_L
          · cases eq
      | cons a es =>
        unfold mtTab at eq
        simp only [List.length_cons, ne_eq, Nat.succ_ne_zero, Nat.add_one_ne_zero, not_false_eq_true, and_true, and_false, if_false] at eq
        split at eq
        · rename_i hm
          cases beqs hm
          cases eq
          exact d_mt hd o tk hs hl hp hb PySem.F.plainAttrs_list PySem.F.slot_list_append PySem.F.type_list_append m_append fun _ _ _ _ _ => tyV_L
        · split at eq
          · rename_i hm
            cases beqs hm
            cases eq
            exact d_mt hd o tk hs hl hp hb PySem.F.plainAttrs_list PySem.F.slot_list_pop PySem.F.type_list_pop m_popAt fun _ _ _ _ _ => tyV_L
          · split at eq
            · rename_i hm
              cases beqs hm
              cases eq
              exact d_mt hd o tk hs hl hp hb PySem.F.plainAttrs_list PySem.F.slot_list_insert PySem.F.type_list_insert m_insert fun _ _ _ _ _ => tyV_L
            · split at eq
              · rename_i hm
                cases beqs hm
                cases eq
                exact d_mt hd o tk hs hl hp hb PySem.F.plainAttrs_list PySem.F.slot_list_extend PySem.F.type_list_extend m_extend fun _ _ _ _ _ => tyV_L
              · split at eq
                · rename_i hm
                  cases beqs hm
                  cases eq
                  exact d_mt hd o tk hs hl hp hb PySem.F.plainAttrs_list PySem.F.slot_list_index PySem.F.type_list_index (m_index hu65) fun _ _ _ _ _ => tyV_L
                · split at eq
                  · rename_i hm
                    cases beqs hm
                    cases eq
                    exact d_mt hd o tk hs hl hp hb PySem.F.plainAttrs_list PySem.F.slot_list_remove PySem.F.type_list_remove m_remove fun _ _ _ _ _ => tyV_L
                  · split at eq
                    · rename_i hm
                      cases beqs hm
                      cases eq
                      exact d_mt hd o tk hs hl hp hb PySem.F.plainAttrs_str PySem.F.slot_str_split PySem.F.type_str_split m_split fun _ _ _ _ _ _ r c => tyV_S (T := FX X cv fn xs) r c
                    · split at eq
                      · rename_i hm
                        cases beqs hm
                        cases eq
                        exact d_mt hd o tk hs hl hp hb PySem.F.plainAttrs_str PySem.F.slot_str_join PySem.F.type_str_join m_join fun _ _ _ _ _ _ r c => tyV_S (T := FX X cv fn xs) r c
                      · split at eq
                        · rename_i hm
                          cases beqs hm
                          cases eq
                          exact d_mt hd o tk hs hl hp hb PySem.F.plainAttrs_str PySem.F.slot_str_rfind PySem.F.type_str_rfind m_rfind fun _ _ _ _ _ _ r c => tyV_S (T := FX X cv fn xs) r c
                        · split at eq
                          · rename_i hm
                            cases beqs hm
                            cases eq
                            exact d_mt hd o tk hs hl hp hb PySem.F.plainAttrs_str PySem.F.slot_str_partition PySem.F.type_str_partition m_part fun _ _ _ _ _ _ r c => tyV_S (T := FX X cv fn xs) r c
                          · cases eq
    · split
      · rename_i l hl
        split
        · rename_i hc
          exact d_MU hd o tk hs hl' hp hb hc hl
        · exact e_K
      · exact e_K
  · exact e_K
theorem fid_of {f : Str} {i : Nat} (h : g.fid f = some i) : f = fnm i ∧ i < fnames.length := by
  unfold G.fid at h
  split at h
  · split at h
    · rename_i hc
      cases h
      exact ⟨(beqs hc.1).symm, hc.2⟩
    · cases h
  · cases h
theorem d_F {oe : Expr} {f : Str} (hd : Sd d) (o : XOk X g cv fn xs) (tk : L2N.Takes X W) : PE X (.Attribute oe f pos) (PE_ (FX X cv fn xs) W (denF d g oe f)) := by
  unfold denF
  split
  · rename_i i ei
    obtain ⟨rfl, hi⟩ := fid_of ei
    split
    · rename_i y ey
      unfold dXf
      split
      · rename_i hx
        split
        · rename_i dv ed
          obtain ⟨n, pn, j, ea, hm⟩ := exc_of ey
          subst ea
          obtain ⟨hn, hloc, hnm, ad, dd, hxs, _, hfld⟩ := o.suite _ _ _ hm
          obtain ⟨C, hC, hXf, hno⟩ := o.xf _ _ hx
          have hvis : PE X (.Name n pn) (fun σ H Q => σ[j]? = some (some (.ref ad)) ∧ Q (.ref ad) H) :=
            peImp (pe_var hn (.inl hloc) (okNm_of hnm).1 (okNm_of hnm).2.1) fun σ H Q q => ⟨_, q.1, q.2⟩
          refine peImp (hfld i C _ _ pos hC hXf hno hvis rfl) fun σ H Q q => ?_
          obtain ⟨m, e, h, rh, re, p⟩ := q
          obtain ⟨e1, e2⟩ := re.exc j ad y dd hxs
          have hne : y.fs ≠ [] := fun z => by rw [z] at ed; cases ed
          obtain ⟨dx, vs, e3, e4, pf⟩ := e2.2 hne
          obtain ⟨v, e5, r5⟩ := look_rdX hi pf ed
          exact ⟨e1, rfl, hC, dx, vs, v, e3, e4, e5, p.here rh r5⟩
        · exact e_K
      · exact e_K
    · split
      · rename_i hb
        exact s_fld (hd.E X g cv fn xs W o tk oe) (base_of hb)
      · exact e_K
  · split
    · rename_i c id n dv hl
      split
      · rename_i hc
        obtain ⟨hc, hn, hb⟩ := hc
        obtain ⟨cm, hxs, k, hr, _, fns⟩ := o.calm hc
        subst hxs
        obtain ⟨C, gm, fd, ps, dvs, h1, h2, h3, h4, h5, h6⟩ := fns.mts f _ hl _ (List.mem_singleton.mpr rfl)
        have hn : n = 0 := hn
        subst hn
        obtain ⟨cl, p, hp⟩ := h2.prop rfl
        have hlen : dv.length = dvs.length := (h5 (fun _ => 0) 0 (fun _ => none)).length
        obtain ⟨ws, hv, hbd⟩ := h6 dv.length (Nat.le_refl _)
        have hw : ws = [] := by
          have e : dvs.drop dv.length = [] := by rw [hlen]; exact List.drop_length
          have := hv.length
          rw [e] at this
          exact List.length_eq_zero_iff.mp this.symm
        subst hw
        exact s_prop (hd.E X g cv fn none W o tk oe) h1 cl hp h4 hr hbd (base_of hb)
      · exact e_K
    · exact e_K
theorem set_of {e : Expr} {env : Env} (h : isSet e = false) : ∀ x, foldedSetIterable e env x = pure x := by
  intro x
  cases e <;> first | rfl | cases h
theorem d_I {tg : Expr} (hd : Sd d) (o : XOk X g cv fn xs) (tk : L2N.Takes X W) : ∀ (e : Expr), PI X tg e (PI_ (FX X cv fn xs) W (denI d g tg e)) := by
  intro e
  unfold denI
  split
  · rename_i x p args pos
    split
    · rename_i hg
      obtain ⟨gl, ok, nm, _⟩ := glob_of o hg
      split
      · rename_i a
        split
        · exact i_K
        · rename_i hs
          have hs : isStar a = false := by simpa using hs
          have h1 : starEach [a] X.env = [(false, eval a X.env)] := by rw [star_of hs]; rfl
          split
          · rename_i z; cases beqs z; exact i_range1 gl ok (hd.E X g cv fn xs W o tk a) h1
          · split
            · rename_i z; cases beqs z; exact i_rev gl ok (hd.E X g cv fn xs W o tk a) h1
            · split
              · rename_i z
                obtain ⟨z, zt⟩ := z
                cases beqs z
                cases tg <;> first | exact i_enum gl ok (hd.E X g cv fn xs W o tk a) h1 | cases zt
              · split
                · exact i_seq (hd.E X g cv fn xs W o tk _)
                · exact i_K
      · rename_i a b
        split
        · exact i_K
        · rename_i hs
          have hs : isStar a = false ∧ isStar b = false := by
            refine ⟨?_, ?_⟩
            · cases q : isStar a with
              | false => rfl
              | true => exact absurd (.inl q) hs
            · cases q : isStar b with
              | false => rfl
              | true => exact absurd (.inr q) hs
          have h2 : starEach [b] X.env = [(false, eval b X.env)] := by rw [star_of hs.2]; rfl
          have h1 : starEach [a, b] X.env = [(false, eval a X.env), (false, eval b X.env)] := by rw [star_of hs.1, h2]
          split
          · rename_i z; cases beqs z; exact i_range2 gl ok (hd.E X g cv fn xs W o tk a) (hd.E X g cv fn xs W o tk b) h1 h2
          · split
            · rename_i z
              obtain ⟨z, zt⟩ := z
              cases beqs z
              cases tg <;> first | exact i_zip gl ok (hd.E X g cv fn xs W o tk a) (hd.E X g cv fn xs W o tk b) h1 h2 (plain_of (by simp [hs.2])) | cases zt
            · exact i_K
      · exact i_K
    · exact i_seq (hd.E X g cv fn xs W o tk _)
  · split
    · exact i_K
    · exact i_seq (hd.E X g cv fn xs W o tk e)
def StOk (X : Cx) (g : G) (S : Nat → Prop) : Prop := ∀ x i, g.sto x = some i → S i → X.N[i]? = some x ∧ Loc X.env.scope x ∧ (X.fn x = true ∨ X.env.scope.names.lookup x = some .local)
theorem sto_of {x : Str} {i : Nat} (o : XOk X g cv fn xs) (h : g.sto x = some i) : X.N[i]? = some x ∧ Loc X.env.scope x ∧ Nx (FX X cv fn xs) i := by
  unfold G.sto at h
  split at h
  · rename_i hk
    split at h
    · rename_i j ej
      have hN := ix_of o ej
      have hl : Loc X.env.scope x := by
        unfold L2.Loc
        rw [o.sc]
        rw [Bool.or_eq_true] at hk
        rcases hk with hk | hk
        · exact .inl (by simpa using hk)
        · exact .inr (by simpa using hk)
      split at h
      · rename_i y n k hm
        split at h
        · cases h
        · rename_i hne
          cases h
          obtain ⟨_, _, _, a, dd, hx, _⟩ := o.suite _ _ _ hm
          exact ⟨hN, hl, fun j' a' z => by
            have z' : xs = some (j', a') := z
            rw [hx] at z'
            cases z'
            exact fun q => hne q.symm⟩
      · rename_i hm
        cases h
        refine ⟨hN, hl, fun j' a' z => ?_⟩
        have z' : xs = some (j', a') := z
        exfalso
        cases hmd : g.md with
        | body => have := (o.calm (by unfold G.calm; rw [hmd])).2.1; rw [z'] at this; cases this
        | blk => have := (o.calm (by unfold G.calm; rw [hmd])).2.1; rw [z'] at this; cases this
        | hot => have := o.hotN hmd; rw [z'] at this; cases this
        | suite y n => cases n with
          | none => have := o.suiteN y hmd; rw [z'] at this; cases this
          | some q => obtain ⟨q1, q2⟩ := q; exact hm _ _ _ hmd
    · cases h
  · cases h
theorem stOk_of (o : XOk X g cv fn xs) (hm : g.md ≠ .blk) : StOk X g (fun _ => True) := fun x i h _ => ⟨(sto_of o h).1, (sto_of o h).2.1, .inl (o.fnT hm x)⟩
theorem stos_of {S : Nat → Prop} (st : StOk X g S) : ∀ {es : List Expr} {is : List Nat}, g.stos es = some is → (∀ i ∈ is, S i) → Paired (nmOk X) es is
  | [], is, h, _ => by cases h; exact .nil
  | e :: es, is, h, hS => by
    cases e with
    | Name x p =>
      change (match g.sto x, g.stos es with | some i, some is => some (i :: is) | _, _ => none) = some is at h
      split at h
      · rename_i i is' h1 h2
        cases h
        exact .cons (st x i h1 (hS i (by simp))) (stos_of st h2 fun j hj => hS j (by simp [hj]))
      · cases h
    | _ => cases h
theorem tgs_of {S : Nat → Prop} (o : XOk X g cv fn xs) (st : StOk X g S) (hc : X.calm = true) (hx : xs = none) : ∀ {es : List Expr} {p : List Nat × List Tg}, g.tgs es = some p → (∀ i ∈ p.1, S i) → TgOk X (FX X cv fn xs) es p.1 p.2
  | [], p, h, _ => by cases h; exact .nil
  | e :: es, p, h, hS => by
    cases e with
    | Name x ps =>
      change (match g.sto x, g.tgs es with | some i, some p => some ([i] ++ p.1, gN i :: p.2) | _, _ => none) = some p at h
      split at h
      · rename_i i p' h1 h2
        cases h
        obtain ⟨q1, q2, q3⟩ := st x i h1 (hS i (by simp))
        exact .cons rfl (g_n (sto_of o h1).2.2 o.nd q1 q2 q3) (tgs_of o st hc hx h2 fun j hj => hS j (List.mem_append_right _ hj))
      · cases h
    | Tuple ts kk ps =>
      change (match g.stos ts, g.tgs es with | some is, some p => some (is ++ p.1, gT is :: p.2) | _, _ => none) = some p at h
      split at h
      · rename_i is p' h1 h2
        cases h
        exact .cons rfl (g_t hx hc o.nd (stos_of st h1 fun j hj => hS j (List.mem_append_left _ hj))) (tgs_of o st hc hx h2 fun j hj => hS j (List.mem_append_right _ hj))
      · cases h
    | _ => cases h
theorem d_tg {S : Nat → Prop} {tg : Expr} {is : List Nat} {t : Tg} (o : XOk X g cv fn xs) (st : StOk X g S) (h : g.tg tg = some (is, t)) (hS : ∀ i ∈ is, S i) : PG X tg (PG_ (FX X cv fn xs) is t) := by
  unfold G.tg at h
  split at h
  · rename_i x p
    obtain ⟨i, e, q⟩ := Option.map_eq_some_iff.mp h
    cases q
    obtain ⟨h1, h2, h3⟩ := st x i e (hS i (by simp))
    exact g_n (sto_of o e).2.2 o.nd h1 h2 h3
  · split at h
    · rename_i hc
      obtain ⟨hc1, hx, _⟩ := o.calm hc
      split at h
      · obtain ⟨js, e, q⟩ := Option.map_eq_some_iff.mp h
        cases q
        exact g_t hx hc1 o.nd (stos_of st e hS)
      · obtain ⟨p, e, q⟩ := Option.map_eq_some_iff.mp h
        cases q
        exact g_tm hc1 (tgs_of o st hc1 hx e hS)
    · cases h
  · cases h
theorem XOk.blk {s : Shared} {H : Hp} {scope : Scope} {C : Addr} {cl : List (Str × Addr)} {fp : List Addr} (o : XOk X g cv fn xs) (hc : g.calm = true) :
    XOk (X.blk s H scope (compEnvC scope cl C X.env) fp) { g with sc := relS scope g.sc, md := .blk } cv fn xs := by
  refine ⟨o.N, o.nd, ?_, o.hu, fun z => absurd rfl z, fun _ => o.calm hc, o.gl, o.sub, o.isi, fun z => (by cases z), o.na, o.xf, fun _ _ _ z => (by cases z), fun _ z => (by cases z), o.dig, fun z => (by cases z), fun z => (by cases z), fun z => (by cases z)⟩
  show relS scope X.env.scope = relS scope g.sc
  rw [o.sc]
theorem d_Ts (hd : Sd d) (o : XOk X g cv fn xs) (tk : L2N.Takes X W) : ∀ (ifs : List Expr), PTs X ifs (PT_ (FX X cv fn xs) W (denTs d g ifs))
  | [] => ⟨fun pins s σ H Q I q => by
    obtain ⟨m, e, h, rh, re, p⟩ := q
    exact pts_nil.run pins s σ H Q I (p.here rh rfl)⟩
  | [c] => pts_one (hd.T X g cv fn xs W o tk c)
  | _ :: _ :: _ => ⟨fun pins s σ H Q I q => by
    obtain ⟨m, e, h, rh, re, p⟩ := q
    exact p.elim⟩
theorem own_mem {sc : Scope} {i : Nat} (h : i ∈ (ownOf g sc).map (·.2)) : ∃ y ∈ sc.names, g.ix y.1 = some i ∧ (y.2 = .local ∨ y.2 = .cell) := by
  obtain ⟨q, h1, h2⟩ := List.mem_map.mp h
  obtain ⟨y, h3, h4⟩ := List.mem_filterMap.mp h1
  split at h4
  · rename_i hk
    obtain ⟨j, e1, e2⟩ := Option.map_eq_some_iff.mp h4
    cases e2
    subst h2
    exact ⟨y, h3, e1, .inl hk⟩
  · rename_i hk
    obtain ⟨j, e1, e2⟩ := Option.map_eq_some_iff.mp h4
    cases e2
    subst h2
    exact ⟨y, h3, e1, .inr hk⟩
  · cases h4
theorem blk_st {s : Shared} {H : Hp} {scope : Scope} {C : Addr} {cl : List (Str × Addr)} {fp : List Addr} (o : XOk X g cv fn xs) (hc : g.calm = true) (ok : BlkOk X.N X.env.scope scope (ownOf g scope)) :
    StOk (X.blk s H scope (compEnvC scope cl C X.env) fp) { g with sc := relS scope g.sc, md := .blk } (fun i => i ∈ (ownOf g scope).map (·.2)) := fun x i h hi => by
  have o' := XOk.blk (s := s) (H := H) (scope := scope) (C := C) (cl := cl) (fp := fp) o hc
  obtain ⟨h1, h2, _⟩ := sto_of o' h
  refine ⟨h1, h2, ?_⟩
  obtain ⟨y, hy, e1, hk⟩ := own_mem hi
  have e2 := ix_of o e1
  have e3 : some x = some y.1 := h1.symm.trans e2
  cases e3
  have u := ok.uniq y hy
  rcases hk with hk | hk
  · right
    show (relS scope X.env.scope).names.lookup y.1 = some .local
    rw [hk] at u
    exact lookup_relS_keep (by decide) u
  · left
    show (scope.names.lookup y.1 == some .cell) = true
    rw [u, hk]
    rfl
end
end Mn
namespace Mn
open PySem L2
section
variable {X : Cx} {g : G} {cv : Nat → Value} {fn : Nat → Str} {xs : Xs} {W : WX} {pos : Pos} {d : DD}
theorem allMem {own : List Nat} {is : List Nat} (h : is.all (fun i => decide (i ∈ own)) = true) : ∀ i ∈ is, i ∈ own := fun i hi => of_decide_eq_true (List.all_eq_true.mp h i hi)
structure Lc2P (X : Cx) (g : G) (cv : Nat → Value) (fn : Nat → Str) (xs : Xs) (d : DD) (sc : Scope) (tg tg1 it1 el : Expr) (ifs ifs1 : List Expr) (is is1 : List Nat) (t t1 : Tg) : Prop where
  ok : BlkOk X.N X.env.scope sc (ownOf g sc)
  hg : ∀ (s : Shared) (H : Hp) (C : Addr) (cl : List (Str × Addr)) (fp : List Addr), PG (X.blk s H sc (compEnvC sc cl C X.env) fp) tg (PG_ (FX X cv fn xs) is t)
  hg1 : ∀ (s : Shared) (H : Hp) (C : Addr) (cl : List (Str × Addr)) (fp : List Addr), PG (X.blk s H sc (compEnvC sc cl C X.env) fp) tg1 (PG_ (FX X cv fn xs) is1 t1)
  ht : ∀ (s : Shared) (H : Hp) (C : Addr) (cl : List (Str × Addr)) (fp : List Addr), PTs (X.blk s H sc (compEnvC sc cl C X.env) fp) ifs (PT_ (FX X cv fn xs) noW (denTs d { g with sc := relS sc g.sc, md := .blk } ifs))
  ht1 : ∀ (s : Shared) (H : Hp) (C : Addr) (cl : List (Str × Addr)) (fp : List Addr), PTs (X.blk s H sc (compEnvC sc cl C X.env) fp) ifs1 (PT_ (FX X cv fn xs) noW (denTs d { g with sc := relS sc g.sc, md := .blk } ifs1))
  hi1 : ∀ (s : Shared) (H : Hp) (C : Addr) (cl : List (Str × Addr)) (fp : List Addr), PI (X.blk s H sc (compEnvC sc cl C X.env) fp) tg1 it1 (PI_ (FX X cv fn xs) noW (denI d { g with sc := relS sc g.sc, md := .blk } tg1 it1))
  he : ∀ (s : Shared) (H : Hp) (C : Addr) (cl : List (Str × Addr)) (fp : List Addr), PE (X.blk s H sc (compEnvC sc cl C X.env) fp) el (PE_ (FX X cv fn xs) noW (d.E { g with sc := relS sc g.sc, md := .blk } el))
theorem lc2_parts {sc : Scope} {tg tg1 it1 el : Expr} {ifs ifs1 : List Expr} {is is1 : List Nat} {t t1 : Tg} (hd : Sd d) (o : XOk X g cv fn xs) (h1 : g.calm = true) (h2 : blkC g.N g.sc sc (ownOf g sc) = true)
    (h3 : is.all (fun i => decide (i ∈ (ownOf g sc).map (·.2))) = true) (h3' : is1.all (fun i => decide (i ∈ (ownOf g sc).map (·.2))) = true)
    (et : ({ g with sc := relS sc g.sc, md := .blk } : G).tg tg = some (is, t)) (et1 : ({ g with sc := relS sc g.sc, md := .blk } : G).tg tg1 = some (is1, t1)) : Lc2P X g cv fn xs d sc tg tg1 it1 el ifs ifs1 is is1 t t1 := by
  have ok : BlkOk X.N X.env.scope sc (ownOf g sc) := blkOk_by (by rw [o.N, o.sc]; exact h2)
  exact ⟨ok, fun s H C cl fp => d_tg (X := X.blk s H sc (compEnvC sc cl C X.env) fp) (XOk.blk o h1) (blk_st o h1 ok) et (allMem h3),
    fun s H C cl fp => d_tg (X := X.blk s H sc (compEnvC sc cl C X.env) fp) (XOk.blk o h1) (blk_st o h1 ok) et1 (allMem h3'),
    fun s H C cl fp => d_Ts (X := X.blk s H sc (compEnvC sc cl C X.env) fp) hd (XOk.blk o h1) takesN ifs,
    fun s H C cl fp => d_Ts (X := X.blk s H sc (compEnvC sc cl C X.env) fp) hd (XOk.blk o h1) takesN ifs1,
    fun s H C cl fp => d_I (X := X.blk s H sc (compEnvC sc cl C X.env) fp) hd (XOk.blk o h1) takesN it1,
    fun s H C cl fp => hd.E (X.blk s H sc (compEnvC sc cl C X.env) fp) _ cv fn xs _ (XOk.blk o h1) takesN el⟩
theorem d_O (hd : Sd d) (o : XOk X g cv fn xs) (tk : L2N.Takes X W) : ∀ (e : Option Expr), L2.PO X e (OO_ (FX X cv fn xs) W (denO d g e))
  | none => s_oN
  | some e => s_oS (hd.E X g cv fn xs W o tk e)
theorem d_Lc {el : Expr} {gs : List Comprehension} {sc : Scope} (hd : Sd d) (o : XOk X g cv fn xs) (tk : L2N.Takes X W) : PE X (.ListComp el gs sc pos) (PE_ (FX X cv fn xs) W (denLc d g el gs sc)) := by
  unfold denLc
  split
  · rename_i tg it ifs
    dsimp only
    split
    · rename_i is t et
      split
      · rename_i hc
        obtain ⟨h1, h2, h3, h4⟩ := hc
        have ok : BlkOk X.N X.env.scope sc (ownOf g sc) := blkOk_by (by rw [o.N, o.sc]; exact h2)
        obtain ⟨hc1, hx, _⟩ := o.calm h1
        have hi : PI X tg it (PI_ (FX X cv fn xs) W (denI d g tg it)) := d_I hd o tk it
        have hg : ∀ (s : Shared) (H : Hp) (C : Addr) (cl : List (Str × Addr)) (fp : List Addr), PG (X.blk s H sc (compEnvC sc cl C X.env) fp) tg (PG_ (FX X cv fn xs) is t) := fun s H C cl fp => d_tg (X := X.blk s H sc (compEnvC sc cl C X.env) fp) (XOk.blk o h1) (blk_st o h1 ok) et (allMem h3)
        have ht : ∀ (s : Shared) (H : Hp) (C : Addr) (cl : List (Str × Addr)) (fp : List Addr), PTs (X.blk s H sc (compEnvC sc cl C X.env) fp) ifs (PT_ (FX X cv fn xs) (fun _ _ _ _ => False) (denTs d { g with sc := relS sc g.sc, md := .blk } ifs)) := fun s H C cl fp => d_Ts (X := X.blk s H sc (compEnvC sc cl C X.env) fp) hd (XOk.blk o h1) takesN ifs
        have he : ∀ (s : Shared) (H : Hp) (C : Addr) (cl : List (Str × Addr)) (fp : List Addr), PE (X.blk s H sc (compEnvC sc cl C X.env) fp) el (PE_ (FX X cv fn xs) (fun _ _ _ _ => False) (d.E { g with sc := relS sc g.sc, md := .blk } el)) := fun s H C cl fp => hd.E (X.blk s H sc (compEnvC sc cl C X.env) fp) _ cv fn xs _ (XOk.blk o h1) takesN el
        exact peImp (pe_lc hc1 o.nd hi ok hg ht he (set_of h4)) fun σ H Q q => s_lc hx hc1 o.nd hi ok hg ht he (allMem h3) (set_of h4) q
      · exact e_K
    · exact e_K
  · rename_i tg it ifs tg1 it1 ifs1
    dsimp only
    split
    · rename_i is t is1 t1 et et1
      split
      · rename_i hc
        obtain ⟨h1, h2, h3, h3', h4, h4'⟩ := hc
        obtain ⟨ok, hg, hg1, ht, ht1, hi1, he⟩ := lc2_parts (is := is) (t := t) (is1 := is1) (t1 := t1) (el := el) (ifs := ifs) (ifs1 := ifs1) (it1 := it1) hd o h1 h2 h3 h3' et et1
        obtain ⟨hc1, hx, _⟩ := o.calm h1
        have hi : PI X tg it (PI_ (FX X cv fn xs) W (denI d g tg it)) := d_I hd o tk it
        exact peImp (pe_lc2 hc1 o.nd hi ok (allMem h3') hg ht hi1 hg1 ht1 he (set_of h4) (fun env x => set_of h4' x)) fun σ H Q q => s_lc2 (it := it) (it1 := it1) (el := el) (ifs := ifs) (ifs1 := ifs1) (scope := sc) hx (allMem h3) q
      · exact e_K
    · exact e_K
  · exact e_K
theorem s_notT {a : Expr} {fa : ED} (ha : PE X a (PE_ (FX X cv fn xs) W fa)) : PE X (.UnaryOp .Not a pos) (PE_ (FX X cv fn xs) W (dNotT fa)) :=
  peImp (pe_notT ha) fun σ H Q q => by
    obtain ⟨m, e, h, rh, re, p⟩ := q
    refine ⟨m, e, h, rh, re, p.bind fun x h1 m1 H1 xv g1 rh1 rx p1 => ?_⟩
    split at p1
    · rename_i k ek
      exact ⟨k, truth_rd rh1 rx ek, p1.here rh1 (.bl _)⟩
    · exact p1.elim
theorem s_andT {a b : Expr} {rest : List Expr} {fa fb : ED} (ha : PE X a (PE_ (FX X cv fn xs) W fa)) (hb : PE X (.BoolOp .And (b :: rest) pos) (PE_ (FX X cv fn xs) W fb)) : PE X (.BoolOp .And (a :: b :: rest) pos) (PE_ (FX X cv fn xs) W (dAndT fa fb)) :=
  peImp (pe_andT ha hb) fun σ H Q q => by
    obtain ⟨m, e, h, rh, re, p⟩ := q
    refine ⟨m, e, h, rh, re, p.bind fun x h1 m1 H1 xv g1 rh1 rx p1 => ?_⟩
    split at p1
    · rename_i k ek
      refine ⟨k, truth_rd rh1 rx ek, ?_⟩
      cases k with
      | true => rw [if_pos rfl] at p1 ⊢; exact ⟨m1, e, h1, rh1, g1.re re, p1⟩
      | false => rw [if_neg Bool.false_ne_true] at p1 ⊢; exact p1.here rh1 rx
    · exact p1.elim
theorem s_orT {a b : Expr} {rest : List Expr} {fa fb : ED} (ha : PE X a (PE_ (FX X cv fn xs) W fa)) (hb : PE X (.BoolOp .Or (b :: rest) pos) (PE_ (FX X cv fn xs) W fb)) : PE X (.BoolOp .Or (a :: b :: rest) pos) (PE_ (FX X cv fn xs) W (dOrT fa fb)) :=
  peImp (pe_orT ha hb) fun σ H Q q => by
    obtain ⟨m, e, h, rh, re, p⟩ := q
    refine ⟨m, e, h, rh, re, p.bind fun x h1 m1 H1 xv g1 rh1 rx p1 => ?_⟩
    split at p1
    · rename_i k ek
      refine ⟨k, truth_rd rh1 rx ek, ?_⟩
      cases k with
      | true => rw [if_pos rfl] at p1 ⊢; exact p1.here rh1 rx
      | false => rw [if_neg Bool.false_ne_true] at p1 ⊢; exact ⟨m1, e, h1, rh1, g1.re re, p1⟩
    · exact p1.elim
theorem d_BoE (hd : Sd d) (o : XOk X g cv fn xs) (tk : L2N.Takes X W) (op : BoolOp) : ∀ (es : List Expr), PE X (.BoolOp op es pos) (PE_ (FX X cv fn xs) W (denBoE d g op es))
  | [] => e_K
  | [a] => pe_one (hd.E X g cv fn xs W o tk a)
  | a :: b :: r => by
    cases op with
    | And => exact s_andT (hd.E X g cv fn xs W o tk a) (d_BoE hd o tk .And (b :: r))
    | Or => exact s_orT (hd.E X g cv fn xs W o tk a) (d_BoE hd o tk .Or (b :: r))
theorem w_K {e : Expr} : PW X e (PT_ (FX X cv fn xs) W tK) := ⟨fun _ _ _ _ _ _ _ ⟨_, _, _, _, _, p⟩ => p.elim⟩
theorem d_BoT (hd : Sd d) (o : XOk X g cv fn xs) (tk : L2N.Takes X W) (op : BoolOp) : ∀ (es : List Expr), PW X (.BoolOp op es pos) (PT_ (FX X cv fn xs) W (denBoT d g op es))
  | [] => w_K
  | [a] => by
    cases op with
    | And => exact pw_and1 (hd.T X g cv fn xs W o tk a)
    | Or => exact pw_or1 (hd.T X g cv fn xs W o tk a)
  | a :: b :: r => by
    cases op with
    | And => exact sw_and (hd.T X g cv fn xs W o tk a) (d_BoT hd o tk .And (b :: r))
    | Or => exact sw_or (hd.T X g cv fn xs W o tk a) (d_BoT hd o tk .Or (b :: r))
theorem bfalse {b : Bool} (h : ¬ b = true) : b = false := by cases b <;> simp_all
theorem d_Ix {a b : Expr} (hd : Sd d) (o : XOk X g cv fn xs) (tk : L2N.Takes X W) (hs : isSlice b = false) : PE X (.Subscript a b pos) (PE_ (FX X cv fn xs) W (denIx d g a b)) := by
  unfold denIx
  split
  · split
    · rename_i kvs i e1 e2
      split
      · rename_i hc
        rw [Bool.and_eq_true, Bool.and_eq_true] at hc
        obtain ⟨n1, n2, n3⟩ := okNm_of hc.1.2
        exact s_dsp o.hu e1 hc.1.1 pe_int (ixp_of rfl) (ix_of o e2) (own_of o hc.2) n1 n2
      · exact e_K
    · exact e_K
  · exact s_ix (hd.E X g cv fn xs W o tk _) (hd.E X g cv fn xs W o tk _) (ixp_of hs)
theorem d_E (hd : Sd d) (o : XOk X g cv fn xs) (tk : L2N.Takes X W) : ∀ (e : Expr), PE X e (PE_ (FX X cv fn xs) W (stepE d g e)) := by
  intro e
  unfold stepE
  split
  · rename_i x p
    split
    · rename_i hn
      obtain ⟨n1, n2, n3⟩ := okNm_of hn
      split
      · rename_i hv
        split
        · exact e_K
        · split
          · rename_i i ei
            exact s_v (ix_of o ei) (own_of o hv) n1 n2
          · exact e_K
      · split
        · rename_i v ev
          obtain ⟨gl, ⟨u, w, h1, h2, h3⟩, _, _⟩ := glob_of o ev
          exact s_c (pe_glob gl h1 h2 n1) h3
        · exact e_K
    · exact e_K
  · exact s_c pe_non fun _ _ _ => .non
  · exact s_c pe_bl fun _ _ _ => .bl _
  · exact s_c pe_int fun _ _ _ => .int _
  · exact s_c pe_str fun _ _ _ => .str _
  · exact s_bin (hd.E X g cv fn xs W o tk _) (hd.E X g cv fn xs W o tk _)
  · exact s_notT (hd.E X g cv fn xs W o tk _)
  · exact s_un (hd.E X g cv fn xs W o tk _)
  · exact d_BoE hd o tk _ _
  · split
    · exact e_K
    · rename_i hb
      exact s_cmp o.hu (hd.E X g cv fn xs W o tk _) (hd.E X g cv fn xs W o tk _) (bfalse hb)
  · split
    · exact e_K
    · rename_i hb
      exact s_chain o.hu (hd.E X g cv fn xs W o tk _) (hd.E X g cv fn xs W o tk _) (hd.E X g cv fn xs W o tk _) (bfalse hb)
  · exact s_if (hd.T X g cv fn xs W o tk _) (hd.E X g cv fn xs W o tk _) (hd.E X g cv fn xs W o tk _)
  · exact d_C hd o tk
  · exact d_K hd o tk
  · exact d_M hd o tk
  · exact d_F hd o tk
  · exact s_sl (hd.E X g cv fn xs W o tk _) (d_O hd o tk _) (d_O hd o tk _)
  · split
    · exact e_K
    · rename_i hs
      exact d_Ix hd o tk (bfalse hs)
  · split
    · exact e_K
    · rename_i hs
      exact s_tup (d_A hd o tk _ (bfalse hs))
  · split
    · exact e_K
    · rename_i hs
      exact s_lst (d_A hd o tk _ (bfalse hs))
  · exact d_Lc hd o tk
  · exact e_K
theorem d_T (hd : Sd d) (o : XOk X g cv fn xs) (tk : L2N.Takes X W) : ∀ (e : Expr), PT X e (PT_ (FX X cv fn xs) W (stepT d g e)) := by
  intro e
  unfold stepT
  split
  · exact st_not (hd.T X g cv fn xs W o tk _)
  · exact (d_BoT hd o tk _ _).pt
  · split
    · exact t_K
    · rename_i hb
      exact st_cmp o.hu (hd.E X g cv fn xs W o tk _) (hd.E X g cv fn xs W o tk _) (bfalse hb)
  · split
    · exact t_K
    · rename_i hb
      exact st_chain o.hu (hd.E X g cv fn xs W o tk _) (hd.E X g cv fn xs W o tk _) (hd.E X g cv fn xs W o tk _) (bfalse hb)
  · split
    · rename_i hp
      refine st_true (hd.E X g cv fn xs W o tk e) ?_
      intro whole
      cases e <;> first | rfl | cases hp
    · exact t_K
theorem d_Ss (hd : Sd d) (o : XOk X g cv fn xs) (tk : L2N.Takes X W) (hp : PassesOwn (model X.prog X.w) X.A X.env X.xe) (hm : g.md ≠ .blk) : ∀ (ss : List Stmt), PSs X ss (PS_ (FX X cv fn xs) W (denSs d g ss))
  | [] => s_nil
  | [s] => s_one (hd.S X g cv fn xs W o tk hp hm s)
  | s :: t :: r => s_cons (hd.S X g cv fn xs W o tk hp hm s) (d_Ss hd o tk hp hm (t :: r))
theorem d_G (hd : Sd d) (o : XOk X g cv fn xs) (tk : L2N.Takes X W) (hm : g.md ≠ .blk) : ∀ (e : Expr), PG X e (PGD_ (FX X cv fn xs) W (denG d g e)) := by
  intro e
  unfold denG
  split
  · rename_i a i p
    split
    · exact g_K
    · rename_i hs
      refine g_ix (hd.E X g cv fn xs W o tk _) (hd.E X g cv fn xs W o tk _) ?_
      intro v
      cases i <;> first | rfl | exact absurd rfl hs
  · split
    · rename_i is t et
      exact g_of (d_tg o (stOk_of o hm) et fun _ _ => trivial)
    · exact g_K
theorem sw_none {e : Expr} {t : Option Expr} {l : Nat} {env : Env} (h : isLc e = false) : swapsWith e t l env = pure false := by
  cases e <;> first | rfl | cases h
theorem o_iop (op : Operator) : PIp X op (r2 (FX X cv fn xs) (iop op)) := by
  intro pins s σ0 H x y v u Q I rx ry hh
  obtain ⟨W, σ, m, h, d1, d2, rh, ra, rb, p⟩ := hh
  unfold iop at p
  split at p
  · cases ra; cases rb; exact ip_add pins s σ0 H _ _ v u Q I rx ry ⟨_, _, rfl, rfl, p.here rh (.int _)⟩
  · cases ra; cases rb; exact ip_sub pins s σ0 H _ _ v u Q I rx ry ⟨_, _, rfl, rfl, p.here rh (.int _)⟩
  · cases ra; cases rb
    split at p
    · rename_i i j hz
      obtain ⟨t, rfl⟩ := rx
      obtain ⟨t', rfl⟩ := ry
      refine PyProof.Rows.imul_int ⟨.int _, H, I.tok _, ⟨_, rfl⟩, p.here rh (.int _)⟩ ?_
      have b : ∀ x : Int, Builtin.Int.intBits x ≤ x.natAbs.log2 + 1 := fun x => by
        unfold Builtin.Int.intBits
        split <;> omega
      have h1 := b i
      have h2 := b j
      have e : bitsLine = 134217728 := by decide
      intro z
      rw [Bool.and_eq_true] at z
      have z2 := z.2
      unfold Builtin.Int.intTooBig at z2
      have z3 := of_decide_eq_true z2
      rw [e] at z3
      have hz' : i.natAbs.log2 + j.natAbs.log2 < 100000000 := hz
      omega
    · exact p.elim
  · cases ra; cases rb
    split at p
    · rename_i hz
      exact iop_add_str pins s σ0 H _ _ v u Q I rx ry ⟨_, _, rfl, rfl, by rw [sizeLine_eq]; exact hz, p.here rh (.str _)⟩
    · exact p.elim
  · exact p.elim
theorem d_Aug {x : Str} {op : Operator} {e : Expr} {p : Pos} (hd : Sd d) (o : XOk X g cv fn xs) (tk : L2N.Takes X W) (hm : g.md ≠ .blk) : PS X (.AugAssign (.Name x p) op e pos) (PS_ (FX X cv fn xs) W (denAug g d x op e)) := by
  unfold denAug
  split
  · rename_i i ei
    obtain ⟨h1, h2, h3⟩ := stOk_of o hm x i ei trivial
    have nx := (sto_of o ei).2.2
    refine psImp (ps_aug o.nd h1 h2 (hd.E X g cv fn xs W o tk e) (o_iop (cv := cv) (fn := fn) (xs := xs) op) h3) fun D σ H q => ?_
    obtain ⟨m, ev, h, rh, re, p⟩ := q
    unfold dV at p
    dsimp only at p
    split at p
    · rename_i v hv
      obtain ⟨w, e1, r1⟩ := re.at_ i v hv
      refine ⟨w, e1, m, ev, h, rh, re, PO.toS (r := d.E g e ev h) re p fun y h2 m2 H2 yv g2 rh2 ry p2 => ?_⟩
      exact ⟨W, σ, m2, h2, v, y, rh2, g2.rd r1, ry, PO.toS (g2.re re) p2 fun z h3 m3 H3 zv g3 rh3 rz p3 => p3 m3 H3 _ Ge.refl rh3 ((g3.re (g2.re re)).set i nx rz)⟩
    · exact p.elim
  · exact s_K
end
end Mn
namespace Mn
open PySem L2
section
variable {X : Cx} {g : G} {cv : Nat → Value} {fn : Nat → Str} {xs : Xs} {W : WX} {pos : Pos} {d : DD} {f : SD}
theorem s_tryN {body suite : List Stmt} {b₀ : Stmt} {x : Str} {np pos' : Pos} {sub : Nat → Nat → Option Bool} {hd : Nat} {fs : Xc → SD} (hx : xs = none) (hs : X.stack = X.env :: X.outer) (hf : X.env.frame = some X.env.locals)
    (hc : Names X x (cv hd)) (tk : L2N.Takes X W) (hsub : ∀ c1 c2 b, sub c1 c2 = some b → PySem.W.exmOne X.K (cv c1) (cv c2) = some b)
    (hb : ∀ (W : WX) (pn : List (Addr × Obj)) (xe : Value → Shared → Prop), L2N.Takes (X.tr pn xe) W → PassesOwn (model X.prog X.w) X.A X.env xe → PSs (X.tr pn xe) body (PS_ (FX X cv fn xs) W f))
    (hsu : ∀ (a : Addr) (oe : Obj) (x : Xc) (pn : List (Addr × Obj)), PSs (X.suite a ((a, oe) :: pn)) (b₀ :: suite) (PS_ (FX X cv fn none) (fun _ _ _ _ => False) (fs x))) :
    PS X (.Try body [.ExceptHandler (some (.Name x np)) none (b₀ :: suite) pos'] [] [] pos) (PS_ (FX X cv fn xs) W (sTry sub f ⟨hd, none, fs⟩)) := by
  subst hx
  refine psImp (L2N.ps_try_many hs hf tk hb (.cons (ts := fun a cls d D σ H => ∃ y : Xc, PS_ (FX X cv fn none) (fun _ _ _ _ => False) (fs y) D σ H) hc
    (fun a oe cls d pn hz hfl => ⟨fun pins s σ H D I q => ?_⟩) .nil)) fun D σ H q => ?_
  · obtain ⟨y, q⟩ := q
    exact (hsu a oe y pn).run pins s σ H D I q
  · obtain ⟨m, e, h, rh, re, p⟩ := q
    refine ⟨m, e, h, rh, re, ?_⟩
    unfold sTry at p
    cases qf : f e h with
    | stuck => rw [qf] at p; exact p
    | go fl e1 h1 => rw [qf] at p; exact p.flow
    | exc y e1 h1 =>
      rw [qf] at p
      intro m1 H1 σ1 cls dd g1 rh1 re1 rx
      simp only at p
      cases qs : sub y.cls hd with
      | none => rw [qs] at p; exact p.elim
      | some k =>
        rw [qs] at p
        obtain ⟨ec, rx'⟩ := rx
        refine ⟨k, by rw [ec]; exact hsub _ _ _ qs, fun ek ad had => ?_, fun ek => ?_⟩
        · subst ek
          simp only at p
          rw [if_pos (show slotOk e1 none = true from rfl)] at p
          refine ⟨y, m1, e1, h1, rh1, re1, ?_⟩
          have p1 := PSo.base p g1
          cases qg : fs y e1 h1 with
          | stuck => simp only [clr, qg] at p1; exact p1.elim
          | exc x e2 h2 => simp only [clr, qg] at p1; exact p1.elim
          | go fl e2 h2 => simp only [clr, qg] at p1; exact p1.flow
        · subst ek
          exact p m1 H1 σ1 cls dd g1 rh1 re1 ⟨ec, rx'⟩
theorem XOk.tr {pn : List (Addr × Obj)} {xe : Value → Shared → Prop} (o : XOk X g cv fn xs) (hm : g.md = .body) : XOk (X.tr pn xe) g cv fn xs :=
  ⟨o.N, o.nd, o.sc, o.hu, o.fnT, o.calm, o.gl, o.sub, o.isi, o.body, o.na, o.xf, fun y n i z => (by rw [hm] at z; cases z), o.suiteN, o.dig, fun z => (by rw [hm] at z; cases z), o.hotB, fun z => (by unfold G.hotOk at z; rw [hm] at z; cases z)⟩
theorem names_of {x : Str} {p : Pos} {c : Nat} (o : XOk X g cv fn xs) (h : g.cid (.Name x p) = some c) : Names X x (cv c) := by
  unfold G.cid at h
  dsimp only at h
  split at h
  · rename_i c' hz
    cases h
    obtain ⟨gz, ⟨C, e1, e2, _⟩, nz, _⟩ := glob_of o hz
    exact ⟨gz, (okNm_of nz).1, .inl (by rw [e1]; exact e2)⟩
  · rename_i c' hz
    cases h
    obtain ⟨gz, ⟨C, e1, e2, e3⟩, nz, _⟩ := glob_of o hz
    exact ⟨gz, (okNm_of nz).1, .inr ⟨e2, by rw [e1]; exact e3, (okNm_of nz).2.2⟩⟩
  · rename_i c' fs hz
    cases h
    obtain ⟨gz, ⟨C, e1, e2, _⟩, nz, _⟩ := glob_of o hz
    exact ⟨gz, (okNm_of nz).1, .inl (by rw [e1]; exact e2)⟩
  · cases h
theorem XOk.suiteS {a : Addr} {oe : Obj} {pn : List (Addr × Obj)} {y : Xc} {n : Str} {i : Nat} {dx : Option Addr} (o : XOk X g cv fn xs) (hm : g.md = .body) (hi : g.ix n = some i) (hl : g.sc.names.lookup n = some .local) (hn : okNm n = true)
    (hz : L2N.Zn (cv y.cls) dx oe) (hf : ∃ vs, oe.data = .fields vs) : XOk (X.suite a ((a, oe) :: pn)) { g with md := .suite y (some (n, i)) } cv fn (some (i, a, y, dx)) := by
  have hm' : g.md ≠ .blk := fun z => by rw [hm] at z; cases z
  refine ⟨o.N, o.nd, o.sc, o.hu, fun _ => o.fnT hm', fun z => (by cases z), o.gl, o.sub, o.isi, fun z => (by cases z), o.na, o.xf, fun y' n' i' z => ?_, fun y' z => (by cases z), o.dig, fun z => (by cases z), fun z => (by cases z), fun _ => ?_⟩
  rotate_left
  · obtain ⟨k, hr, F⟩ := o.hotB hm
    obtain ⟨vs, hd⟩ := hf
    refine ⟨(a, oe), k, ⟨rfl, vs, hd, hz.2.2 vs hd⟩, List.mem_cons_self, ⟨hr.dp, hr.un⟩, F, fun i' a' y' dd' e => ?_⟩
    cases e
    exact ⟨rfl, hz⟩
  cases z
  have hi' := ix_of o hi
  refine ⟨hi', by show X.env.scope.names.lookup n = _; rw [o.sc]; exact hl, hn, a, dx, rfl, fun c2 b hb => ?_, fun f C e te pos hC T hno he hb => ?_⟩
  · obtain ⟨h1, C, h2, h3⟩ := o.isi _ _ _ hb
    rw [h2] at hz
    have hc := isi_told (X := X) (pn := pn) (a := a) h3 hz.zc hf
    intro pins s σ H vs us Q I r q
    obtain ⟨v, rfl, hd, hv, q⟩ := q
    exact hc pins s σ H _ us Q I r ⟨v, cv c2, b, rfl, hd, hv, by rw [h2] at h1; exact h1, q⟩
  · exact pe_xf T hno hz.zc hf he hb
theorem XOk.suiteU {a : Addr} {oe : Obj} {pn : List (Addr × Obj)} {y : Xc} (o : XOk X g cv fn xs) (hm : g.md = .body) : XOk (X.suite a ((a, oe) :: pn)) { g with md := .suite y none } cv fn none := by
  have hm' : g.md ≠ .blk := fun z => by rw [hm] at z; cases z
  exact ⟨o.N, o.nd, o.sc, o.hu, fun _ => o.fnT hm', fun z => (by cases z), o.gl, o.sub, o.isi, fun z => (by cases z), o.na, o.xf, fun y' n' i' z => (by cases z), fun y' z => rfl, o.dig, fun z => (by cases z), fun z => (by cases z), fun z => (by cases z)⟩
theorem d_Try {body : List Stmt} {hs : List ExceptHandler} {hdl : Hd} (hd : Sd d) (o : XOk X g cv fn xs) (tk : L2N.Takes X W) (hm : g.md = .body) (h : denH d g hs = some hdl) : PS X (.Try body hs [] [] pos) (PS_ (FX X cv fn xs) W (sTry g.sub (denSs d g body) hdl)) := by
  have hx : xs = none := (o.calm (by unfold G.calm; rw [hm])).2.1
  obtain ⟨hst, hfr⟩ := o.body hm
  unfold denH at h
  split at h
  · rename_i x np n b bs p
    split at h
    · rename_i c i ec ei
      split at h
      · rename_i hl
        cases h
        rw [Bool.and_eq_true] at hl
        have hl1 : g.sc.names.lookup n = some .local := by simpa using hl.1
        have hk : X.env.kindOf n = some .local := by unfold Env.kindOf; rw [o.sc]; exact hl1
        exact s_try hx hst hfr o.nd (ix_of o ei) hk (names_of o ec) tk o.sub (fun W pn xe tk' hp => d_Ss hd (XOk.tr o hm) tk' hp (fun z => by rw [hm] at z; cases z) body)
          fun a oe y dx pn hz hf hd' => d_Ss hd (XOk.suiteS o hm ei hl1 hl.2 hz hf) takesN PassesOwn.never (fun z => by cases z) (b :: bs)
      · cases h
    · cases h
  · rename_i x np b bs p
    split at h
    · rename_i c ec
      cases h
      exact s_tryN hx hst hfr (names_of o ec) tk o.sub (fun W pn xe tk' hp => d_Ss hd (XOk.tr o hm) tk' hp (fun z => by rw [hm] at z; cases z) body)
        fun a oe y pn => d_Ss hd (XOk.suiteU o hm) takesN PassesOwn.never (fun z => by cases z) (b :: bs)
    · cases h
  · cases h
theorem hdd_of (hd : Sd d) (o : XOk X g cv fn xs) (hm : g.md = .body) : ∀ {hs : List ExceptHandler} {hds : List Hd}, denHs d g hs = some hds → HdD X cv fn hs hds
  | [], _, h => by cases h; exact .nil
  | h0 :: hs, hds, h => by
    unfold denHs at h
    split at h
    · rename_i a r e1 e2
      cases h
      have ih := hdd_of hd o hm e2
      unfold denH at e1
      split at e1
      · rename_i x np n b bs p e0
        cases e0
        split at e1
        · rename_i c i ec ei
          split at e1
          · rename_i hl
            cases e1
            rw [Bool.and_eq_true] at hl
            have hl1 : g.sc.names.lookup n = some .local := by simpa using hl.1
            have hk : X.env.kindOf n = some .local := by unfold Env.kindOf; rw [o.sc]; exact hl1
            exact .as_ (ix_of o ei) hk (names_of o ec) (fun a oe y dx pn hz hf hd' => d_Ss hd (XOk.suiteS o hm ei hl1 hl.2 hz hf) takesN PassesOwn.never (fun z => by cases z) (b :: bs)) ih
          · cases e1
        · cases e1
      · rename_i x np b bs p e0
        cases e0
        split at e1
        · rename_i c ec
          cases e1
          exact .one (names_of o ec) (fun a oe y pn => d_Ss hd (XOk.suiteU o hm) takesN PassesOwn.never (fun z => by cases z) (b :: bs)) ih
        · cases e1
      · cases e1
    · cases h
theorem d_TryM {body : List Stmt} {h0 : ExceptHandler} {hs : List ExceptHandler} {hds : List Hd} (hd : Sd d) (o : XOk X g cv fn xs) (tk : L2N.Takes X W) (hm : g.md = .body) (h : denHs d g (h0 :: hs) = some hds) : PS X (.Try body (h0 :: hs) [] [] pos) (PS_ (FX X cv fn xs) W (sTryM g.sub (denSs d g body) hds)) := by
  have hx : xs = none := (o.calm (by unfold G.calm; rw [hm])).2.1
  obtain ⟨hst, hfr⟩ := o.body hm
  have hdd := hdd_of hd o hm h
  subst hx
  exact s_tries hst hfr o.nd tk o.sub (fun W pn xe tk' hp => d_Ss hd (XOk.tr o hm) tk' hp (fun z => by rw [hm] at z; cases z) body) hdd
theorem swap_fold {x y : Str} {px py pt pt2 : Pos} {kt k2 : Nat} {a b : Expr} {env : Env} (h : okFold a b = true) : swappedStores [.Tuple [.Name x px, .Name y py] kt pt] (.Tuple [a, b] k2 pt2) env = pure none := by
  have h' : ([a, b].all (foldedForSure 8)) = true := by
    unfold okFold at h
    rw [List.all_cons, List.all_cons, List.all_nil, Bool.and_true]
    exact h
  unfold swappedStores
  dsimp only
  rw [h']
  split
  · rfl
  · split
    · rfl
    · split
      · rfl
      · rfl
theorem sole_of {tg e : Expr} {l : Nat} {env : Env} (h : okAs tg e = true) : swapsWithSole [tg] e l env = pure false := by
  show swapsWith e (some tg) l env = pure false
  cases tg with
  | Name x p =>
    refine sw_none ?_
    have h' : (!isLc e) = true := h
    simpa using h'
  | Subscript a b p => cases e <;> rfl
  | Tuple es k p => cases e <;> rfl
  | _ => cases h
theorem swap_of {tg e : Expr} {env : Env} (h : okAs tg e = true) : swappedStores [tg] e env = pure none := by
  cases tg with
  | Name x p => cases e <;> rfl
  | Subscript a b p => cases e <;> rfl
  | Tuple es k p => cases e <;> first | rfl | cases h
  | _ => cases h
theorem each_of {tg e : Expr} {env : Env} (h : okAs tg e = true) : (assignEach [tg] env).map (·.2) = [assign tg env] := by
  cases tg <;> first | rfl | cases h
theorem s_asK {st : Stmt} {k : GD} : PS X st (PS_ (FX X cv fn xs) W (sAs dK k)) := ⟨fun _ _ _ _ _ _ ⟨_, _, _, _, _, p⟩ => p.elim⟩
theorem aug_of {b : Expr} (h : isSlice b = false) : ∀ ov iv new, augStore b ov iv new = (do holding [new, ov, iv] (setItem ov iv new); release [new, ov, iv] []; pure .next) := by
  intro ov iv new
  cases b <;> first | rfl | (cases h)
theorem asG_rd {i : Nat} {D : Ends} {σ : L2.St} {m : Nat → Addr} {h : Hh} {H : Hp} {r : R Mn.D} (hx : xs = none) (p : PO (FX X cv fn xs) W (rdR (FX X cv fn xs)) σ m h H r (fun x H1 => PGD_ (FX X cv fn xs) W (ofG (gN i)) x σ H1 D.nx)) : PO (FX X cv fn xs) W (rdR (FX X cv fn xs)) σ m h H r (fun x H1 => gName i x σ H1 D.nx) := by
  cases r with
  | stuck => exact p
  | exc x h1 => exact p
  | ok d h1 =>
    intro m1 H1 v g1 rh1 r1
    obtain ⟨m2, h2, d2, e2, rh2, re2, rd2, p2⟩ := p m1 H1 v g1 rh1 r1
    exact p2 m2 H1 _ Ge.refl rh2 (re2.set i (fun j a h => by rw [show xs = some (j, a) from h] at hx; cases hx) rd2)
theorem swap_yes {x y : Str} {px py pt pt2 : Pos} {kt k2 : Nat} {a b : Expr} (o : XOk X g cv fn xs) (h : okPar g x y px py a b = true) : swappedStores [.Tuple [.Name x px, .Name y py] kt pt] (.Tuple [a, b] k2 pt2) X.env = pure (some [x, y]) := by
  unfold okPar at h
  simp only [Bool.and_eq_true, Bool.not_eq_true'] at h
  obtain ⟨⟨⟨⟨⟨⟨⟨⟨⟨h0, h1⟩, h2⟩, h3⟩, h4⟩, h5⟩, h6⟩, h7⟩, h8⟩, h9⟩ := h
  have k1 : X.env.blockKind = .function := by
    have e : g.sc.kind = .function := by simpa using h1
    unfold Env.blockKind
    rw [o.sc, e]
    rfl
  have k5 : X.env.kindOf x = some .local := by unfold Env.kindOf; rw [o.sc]; simpa using h5
  have k6 : X.env.kindOf y = some .local := by unfold Env.kindOf; rw [o.sc]; simpa using h6
  have ed : ([x, y].eraseDups.length != [x, y].length) = false := by
    have hxy : (x == y) = false := h7
    have hyx : (y == x) = false := by
      have : x ≠ y := by simpa using hxy
      simpa using Ne.symm this
    simp [List.eraseDups_cons, hxy, hyx]
  unfold swappedStores
  dsimp only
  generalize hw : List.any [a, b] _ = w
  have ew : w = false := by
    rw [← hw, List.any_cons, List.any_cons, List.any_nil]
    cases a <;> first | (cases h2; done) | (cases b <;> first | (cases h3; done) | rfl)
  generalize hq : List.filterMap _ [Expr.Name x px, Expr.Name y py] = q
  have eq : q = [x, y] := by
    have hp : (Expr.Name x px).pos.line = px.line := rfl
    have hl2 : py.line = px.line := by simpa using h4
    rw [← hq]
    simp [List.filterMap_cons, k5, k6, hp, hl2]
  subst ew eq
  rw [k1, if_neg (by show ¬ (false = true); decide), if_neg (by decide), if_neg (by
    have z : ([x, y].length != [Expr.Name x px, Expr.Name y py].length) = false := rfl
    rw [z, ed]; decide)]
  rw [if_neg (by show ¬ ((foldedForSure 8 a && (foldedForSure 8 b && true)) = true); rw [Bool.and_true, h8]; decide), if_neg (by show ¬ ((constantsAlone 8 a && (constantsAlone 8 b && true)) = true); rw [Bool.and_true, h9]; decide)]
theorem d_FH {tg it : Expr} {body : List Stmt} (hd : Sd d) (o : XOk X g cv fn xs) (tk : L2N.Takes X W) (hp : PassesOwn (model X.prog X.w) X.A X.env X.xe) (hm : g.md ≠ .blk) : PS X (.For tg it body [] pos) (PS_ (FX X cv fn xs) W (denFH d g tg it body)) := by
  unfold denFH
  split
  · rename_i hh
    split
    · rename_i x p1 a p2
      split
      · rename_i hb
        split
        · rename_i hc
          obtain ⟨hx, hs⟩ := hc
          cases beqs hx
          split
          · rename_i is t et
            obtain ⟨pp, k, h1, hpp, _⟩ := o.hot hh
            obtain ⟨gl, ml, nl, _⟩ := glob_of o hb
            exact s_forH hp ⟨pp, h1, hpp⟩ (i_range1H gl ml (hd.E X g cv fn xs W o tk a) (star_of hs)) (d_tg o (stOk_of o hm) et fun _ _ => trivial) (d_Ss hd o tk hp hm body) (set_of rfl)
          · exact s_K
        · exact s_K
      · exact s_K
    · exact s_K
  · exact s_K
theorem d_S (hd : Sd d) (o : XOk X g cv fn xs) (tk : L2N.Takes X W) (hp : PassesOwn (model X.prog X.w) X.A X.env X.xe) (hm : g.md ≠ .blk) : ∀ (s : Stmt), PS X s (PS_ (FX X cv fn xs) W (stepS d g s)) := by
  intro s
  unfold stepS
  split
  · exact s_pass
  · exact s_brk
  · exact s_cont
  · split
    · exact s_K
    · rename_i h
      exact s_ex (hd.E X g cv fn xs W o tk _) (sw_none (bfalse h))
  · exact s_rt (hd.E X g cv fn xs W o tk _)
  · exact s_rtN
  · exact s_ifS (hd.T X g cv fn xs W o tk _) (d_Ss hd o tk hp hm _) (d_Ss hd o tk hp hm _)
  · rename_i y py el gs sc cpos spos
    split
    · rename_i hcell
      have k : X.env.kindOf y = some .cell := by unfold Env.kindOf; rw [o.sc]; simpa using hcell
      refine s_as (hd.E X g cv fn xs W o tk _) (d_G hd o tk hm _) ?_ rfl rfl
      show swapsWith (.ListComp el gs sc cpos) (some (.Name y py)) spos.line X.env = pure false
      unfold swapsWith
      simp only [k]
      have z : (some NameKind.cell == some NameKind.local) = false := rfl
      rw [z, Bool.and_false, Bool.false_and, Bool.false_and]
    split
    · rename_i i ei
      split
      · rename_i hc
        simp only [Bool.and_eq_true] at hc
        obtain ⟨⟨⟨hy, hl⟩, hn⟩, hcalm⟩ := hc
        have hy' : g.sc.names.lookup y = some .local := by simpa using hy
        have hyX : X.env.scope.names.lookup y = some .local := by rw [o.sc]; exact hy'
        have hN := (sto_of o ei).1
        obtain ⟨hc1, hx, _⟩ := o.calm hcalm
        unfold denLc
        split
        · rename_i tg it ifs
          dsimp only
          split
          · rename_i is t et
            split
            · rename_i hc
              obtain ⟨h1, h2, h3, h4⟩ := hc
              have ok : BlkOk X.N X.env.scope sc (ownOf g sc) := blkOk_by (by rw [o.N, o.sc]; exact h2)
              have hi : PI X tg it (PI_ (FX X cv fn xs) W (denI d g tg it)) := d_I hd o tk it
              have hg : ∀ (s : Shared) (H : Hp) (C : Addr) (cl : List (Str × Addr)) (fp : List Addr), PG (X.blk s H sc (compEnvC sc cl C X.env) fp) tg (PG_ (FX X cv fn xs) is t) := fun s H C cl fp => d_tg (X := X.blk s H sc (compEnvC sc cl C X.env) fp) (XOk.blk o h1) (blk_st o h1 ok) et (allMem h3)
              have ht : ∀ (s : Shared) (H : Hp) (C : Addr) (cl : List (Str × Addr)) (fp : List Addr), PTs (X.blk s H sc (compEnvC sc cl C X.env) fp) ifs (PT_ (FX X cv fn xs) (fun _ _ _ _ => False) (denTs d { g with sc := relS sc g.sc, md := .blk } ifs)) := fun s H C cl fp => d_Ts (X := X.blk s H sc (compEnvC sc cl C X.env) fp) hd (XOk.blk o h1) takesN ifs
              have he : ∀ (s : Shared) (H : Hp) (C : Addr) (cl : List (Str × Addr)) (fp : List Addr), PE (X.blk s H sc (compEnvC sc cl C X.env) fp) el (PE_ (FX X cv fn xs) (fun _ _ _ _ => False) (d.E { g with sc := relS sc g.sc, md := .blk } el)) := fun s H C cl fp => hd.E (X.blk s H sc (compEnvC sc cl C X.env) fp) _ cv fn xs _ (XOk.blk o h1) takesN el
              exact ⟨fun pins s σ H D I q => (s_asLc hx hc1 o.nd hN hyX (sw_true I.ok.kind hyX hl (by simpa using hn)) hi ok hg ht he (allMem h3) (set_of h4)).run pins s σ H D I q⟩
            · exact s_asK
          · exact s_asK
        · rename_i tg it ifs tg1 it1 ifs1
          dsimp only
          split
          · rename_i is t is1 t1 et et1
            split
            · rename_i hc
              obtain ⟨h1, h2, h3, h3', h4, h4'⟩ := hc
              obtain ⟨ok, hg, hg1, ht, ht1, hi1, he⟩ := lc2_parts (is := is) (t := t) (is1 := is1) (t1 := t1) (el := el) (ifs := ifs) (ifs1 := ifs1) (it1 := it1) hd o h1 h2 h3 h3' et et1
              have hi : PI X tg it (PI_ (FX X cv fn xs) W (denI d g tg it)) := d_I hd o tk it
              refine ⟨fun pins s σ H D I q => ?_⟩
              refine (ps_setLc2 hc1 o.nd hN hyX (sw_true I.ok.kind hyX hl (by simpa using hn)) hi ok (allMem h3') hg ht hi1 hg1 ht1 he (set_of h4) (fun env x => set_of h4' x)).run pins s σ H D I ?_
              have q1 := as_rd q
              obtain ⟨m, e, h, rh, re, p⟩ := q1
              refine s_lc2 (it := it) (it1 := it1) (el := el) (ifs := ifs) (ifs1 := ifs1) (scope := sc) hx (allMem h3) (Q := fun x H1 => gName i x σ H1 D.nx) ⟨m, e, h, rh, re, ?_⟩
              exact asG_rd hx p
            · exact s_asK
          · exact s_asK
        · exact s_asK
      · exact s_K
    · exact s_K
  · rename_i x px y py kt pt a b k2 pt2 p
    unfold denPar
    split
    · rename_i i j ei ej
      split
      · rename_i hp'
        have hp2 := hp'
        unfold okPar at hp2
        simp only [Bool.and_eq_true, Bool.not_eq_true'] at hp2
        obtain ⟨⟨⟨⟨⟨⟨⟨⟨⟨h0, h1⟩, h2⟩, h3⟩, h4⟩, h5⟩, h6⟩, h7⟩, h8⟩, h9⟩ := hp2
        obtain ⟨cm, hx, _⟩ := o.calm h0
        have hij : i ≠ j := fun z => by
          subst z
          have e1 := ix_of o ei
          rw [ix_of o ej] at e1
          cases e1
          simp at h7
        exact s_par hx cm o.nd (ix_of o ei) (ix_of o ej) hij (by rw [o.sc]; simpa using h5) (by rw [o.sc]; simpa using h6) (hd.E X g cv fn xs W o tk a) (hd.E X g cv fn xs W o tk b) (star_of h2) (star_of h3) (swap_yes o hp')
      · split
        · rename_i hf
          exact s_as (hd.E X g cv fn xs W o tk _) (d_G hd o tk hm _) rfl (swap_fold hf) rfl
        · exact s_K
    · exact s_K
  · rename_i oe f p1 e p2
    split
    · rename_i i ei
      obtain ⟨rfl, hi⟩ := fid_of ei
      split
      · exact s_fl o.na hi (hd.E X g cv fn xs W o tk _) (hd.E X g cv fn xs W o tk _) (by cases e <;> rfl)
      · exact s_K
    · exact s_K
  · split
    · rename_i h
      exact s_as (hd.E X g cv fn xs W o tk _) (d_G hd o tk hm _) (sole_of h) (swap_of h) (each_of h)
    · exact s_K
  · exact d_Aug hd o tk hm
  · split
    · exact s_K
    · rename_i hs
      exact s_augI (o_iop (cv := cv) (fn := fn) (xs := xs) _) (hd.E X g cv fn xs W o tk _) (hd.E X g cv fn xs W o tk _) (hd.E X g cv fn xs W o tk _) (aug_of (bfalse hs))
  · rename_i oe f p1 op e p2
    split
    · rename_i i ei
      obtain ⟨rfl, hi⟩ := fid_of ei
      exact s_augF o.na hi (hd.E X g cv fn xs W o tk _) (hd.E X g cv fn xs W o tk _) (o_iop (cv := cv) (fn := fn) (xs := xs) _)
    · exact s_K
  · rename_i tg it body p
    split
    · rename_i hc
      obtain ⟨hc, hs⟩ := hc
      split
      · rename_i is t et
        exact s_for hp (o.calm hc).1 (d_I hd o tk it) (d_tg o (stOk_of o hm) et fun _ _ => trivial) (d_Ss hd o tk hp hm body) (set_of hs)
      · exact s_K
    · exact d_FH hd o tk hp hm
  · exact s_while g.fuel hp (hd.T X g cv fn xs W o tk _) (d_Ss hd o tk hp hm _)
  · rename_i x p1 p2 p3
    split
    · rename_i hc
      split
      · rename_i c ec
        obtain ⟨gl, ⟨C, e1, e2, e3, e4, e5, e6⟩, nm, _⟩ := glob_of o ec
        exact s_raise (o.calm hc).2.1 (o.calm hc).1 tk e1 (pmk0 PySem.F.excBase_ValueError e4 e2 e3 (raises_own e5 e6) gl (okNm_of nm).1)
      · exact s_K
    · exact s_K
  · rename_i x p1 a as p2 p3
    split
    · rename_i hc
      obtain ⟨hc, hst⟩ := hc
      split
      · rename_i c fs ec
        split
        · rename_i hf
          obtain ⟨gl, ⟨C, e1, e2, e3, T, fI, fd, ps, h1, h2, h3, h4⟩, nm, _⟩ := glob_of o ec
          obtain ⟨cm, hxs, k, hr, hk, _⟩ := o.calm hc
          subst hxs
          have hst' := hst
          rw [List.any_cons, Bool.or_eq_false_iff] at hst'
          exact s_raiseA ⟨e1, T, fI, fd, ps, h1, h2, h3 _ _ _ _ _, h4⟩ cm tk (hr.mono (by omega)) gl e2 (d_A hd o tk _ hst) hf.1 hf.2 (okNm_of nm).1 (star_of hst'.1) (plain_of hst'.2)
        · exact s_K
      · exact s_K
    · exact s_K
  · rename_i body hs p
    split
    · rename_i hm'
      split
      · rename_i hdl eh
        exact d_Try hd o tk hm' eh
      · split
        · rename_i h0 hs0 hds eh
          exact d_TryM hd o tk hm' eh
        · exact s_K
    · exact s_K
  · exact s_K
end
end Mn
namespace Mn
open PySem L2
theorem d_zero : Sd (dd 0) := ⟨fun _ _ _ _ _ _ _ _ _ => e_K, fun _ _ _ _ _ _ _ _ _ => t_K, fun _ _ _ _ _ _ _ _ _ _ _ => s_K⟩
theorem d_all : ∀ n, Sd (dd n)
  | 0 => d_zero
  | n + 1 => ⟨fun _ _ _ _ _ _ o tk e => d_E (d_all n) o tk e, fun _ _ _ _ _ _ o tk e => d_T (d_all n) o tk e, fun _ _ _ _ _ _ o tk hp hm e => d_S (d_all n) o tk hp hm e⟩
structure Df where
  N : List Str
  sc : Scope
  body : List Stmt
structure Pg where
  defs : List Df
  gl : List (Str × GV)
  fl : List (Str × Nat)
  ms : List (Str × List (Nat × Nat × Nat × List D))
  sub : Nat → Nat → Option Bool
  isi : Nat → Nat → Option Bool
  xa : Nat → List Nat
  fuel : Nat
abbrev dep : Nat := 60
abbrev HX := (Nat → FD) × (Nat → Xc → Hh → R D)
def Pg.g (P : Pg) (T : Nat → FD) (J : HX) (df : Df) : G := { N := df.N, sc := df.sc, gl := P.gl, fl := P.fl, ms := P.ms, T := T, TH := J.1, TX := J.2, sub := P.sub, isi := P.isi, xa := P.xa, fuel := P.fuel, md := .body }
noncomputable def Pg.run (P : Pg) (T : Nat → FD) (J : HX) (df : Df) : FD := fnRun (denSs (dd dep) (P.g T J df) df.body) df.N.length
def noT : Nat → FD := fun _ _ _ => .stuck
noncomputable def Pg.runH (P : Pg) (J : HX) (df : Df) : FD := fnRun (denSs (dd dep) { P.g noT J df with md := .hot } df.body) df.N.length
def endD : RS → R D
  | .go .nx _ h => .ok .non h
  | .go (.rt d) _ h => .ok d h
  | .exc x _ h => .exc x h
  | _ => .stuck
def Df.n0 (df : Df) : Str := df.N.headD (Str.ofString "")
noncomputable def Pg.runX (P : Pg) (J : HX) (df : Df) (y : Xc) : Hh → R D := fun h => if (df.sc.names.lookup df.n0 == some .local && okNm df.n0) = true then endD (denSs (dd dep) { P.g noT J df with md := .suite y (some (df.n0, 0)) } df.body (List.replicate df.N.length none) h) else .stuck
noncomputable def Pg.hx (P : Pg) : Nat → HX
  | 0 => (noT, fun _ _ _ => .stuck)
  | k + 1 => (fun id => match P.defs[id]? with
    | some df => P.runH (P.hx k) df
    | none => noT 0, fun id y => match P.defs[id]? with
    | some df => P.runX (P.hx k) df y
    | none => fun _ => .stuck)
noncomputable def Pg.tbl (P : Pg) : Nat → Nat → FD
  | 0 => fun _ _ _ => .stuck
  | k + 1 => fun id => match P.defs[id]? with
    | some df => P.run (P.tbl k) (P.hx k) df
    | none => fun _ _ => .stuck
structure DfB (K : PySem.W.Frag) (n : Nat) (df : Df) (f : Addr) (fd : FuncData) (ps : List Str) : Prop where
  ex : ∃ (oc : Value) (od : Option Addr) (name qual : Str) (params : Arguments) (dV kV doc pm : Value) (an : Option Addr) (cdv ct : Value) (osl : Array (Option Value)),
    fd = PySem.W.fnOf name qual params df.body df.sc dV kV doc pm an cdv ct ∧ K.lookup f = some ⟨oc, od, .func fd, osl⟩ ∧ PySem.W.codeIn K cdv qual = true
  np : ps.length = n
  sc : FnScope df.N ps df.sc
def DfD (K : PySem.W.Frag) (dv : List D) (fd : FuncData) (ps : List Str) : Prop := ∃ (dvs : List V), (∀ m N H, RDs K m N H dv dvs) ∧ ∀ j, j ≤ dv.length → ∃ ws, Vals (dvs.drop j) ws ∧ Binds K fd ps ws
structure DfOk (K : PySem.W.Frag) (mg : Str → Option Value) (x : Str) (n : Nat) (dv : List D) (df : Df) (f : Addr) (fd : FuncData) (ps : List Str) : Prop extends DfB K n df f fd ps where
  at_ : mg x = some (.ref f)
  kp : PySem.W.keepIn K (.ref f) = true
  b0 : dv = [] → ∀ us : List Value, us.length = ps.length → bindArgs fd ⟨us, []⟩ = pure (ps.zip us)
  dv : DfD K dv fd ps
structure ClOk (K : PySem.W.Frag) (mg : Str → Option Value) (cv : Nat → Value) (x : Str) (c n : Nat) (dv : List D) (pc : List Nat) (ks : List (Nat × List Str × List KP × List D)) (df : Df) (C g : Addr) (fd : FuncData) (ps : List Str) : Prop extends DfB K n df g fd ps where
  at_ : mg x = some (.ref C)
  hC : cv c = .ref C
  cl : Cls K C
  mk' : Mk K C g
  dvs : ∃ dvs : List V, (∀ m N H, RDs K m N H dv dvs) ∧ ∀ j, pc.elem j = true → j + 1 ≤ n ∧ n - (j + 1) ≤ dv.length ∧ ∃ ws, Vals (dvs.drop (dv.length - (n - (j + 1)))) ws ∧ Binds K fd ps ws
  kvs : ∀ t ∈ ks, KsOk K fd ps n t
def MeOk (P : List Df) (K : PySem.W.Frag) (cv : Nat → Value) (m : Str) (e : Nat × Nat × Nat × List D) : Prop := ∃ (df : Df) (C g : Addr) (fd : FuncData) (ps : List Str), P[e.2.1]? = some df ∧ cv e.1 = .ref C ∧ MethP K C m e.2.2.1 g ∧ DfB K (mN e.2.2.1) df g fd ps ∧ DfD K e.2.2.2 fd ps
structure PgOk (P : Pg) (K : PySem.W.Frag) (mg : Str → Option Value) (cv : Nat → Value) : Prop where
  gl : ∀ x v, P.gl.lookup x = some v → GlOk K mg cv x v
  sub : ∀ c1 c2 b, P.sub c1 c2 = some b → PySem.W.exmOne K (cv c1) (cv c2) = some b
  isi : ∀ c1 c2 b, P.isi c1 c2 = some b → PySem.W.kitOne K (cv c1) (cv c2) = some b ∧ ∃ C, cv c1 = .ref C ∧ ExcC K C
  defs : ∀ x id n dv, P.gl.lookup x = some (.fn id n dv) → ∃ df f fd ps, P.defs[id]? = some df ∧ DfOk K mg x n dv df f fd ps
  cls : ∀ x c id n dv pc ks, P.gl.lookup x = some (.ucls c id n dv pc ks) → ∃ df C g fd ps, P.defs[id]? = some df ∧ ClOk K mg cv x c n dv pc ks df C g fd ps
  mts : ∀ m l, P.ms.lookup m = some l → ∀ e ∈ l, MeOk P.defs K cv m e
  na : NaOk K cv naT
  xf : ∀ c f, (P.xa c).elem f = true → ∃ C, cv c = .ref C ∧ XfC K C ∧ PySem.W.findIn K (.ref C) (fnm f) = some none
theorem start_re {T : Fx} (hx : T.ex = none) {m : Nat → Addr} {N : Nat} {H : Hp} {ns : List Str} {ds : List D} {vs : List V} (r : RDs T.K m N H ds vs) : RE T m N H (ds.map some ++ List.replicate (ns.length - ds.length) none) (L2.start ns vs) := by
  have hl := r.length
  refine ⟨?_, fun i d h => ?_, fun i a _ _ z => by rw [hx] at z; cases z⟩
  · unfold L2.start
    rw [List.length_append, List.length_append, List.length_map, List.length_map, List.length_replicate, List.length_replicate, hl]
  · by_cases hi : i < ds.length
    · rw [List.getElem?_append_left (by rw [List.length_map]; exact hi), List.getElem?_map] at h
      cases q : ds[i]? with
      | none => rw [q] at h; cases h
      | some d' =>
        rw [q] at h
        cases h
        obtain ⟨v, e, rv⟩ := r.get q
        refine ⟨v, ?_, rv⟩
        unfold L2.start
        rw [List.getElem?_append_left (by rw [List.length_map, ← hl]; exact hi), List.getElem?_map, e]
        rfl
    · rw [List.getElem?_append_right (by rw [List.length_map]; omega), List.getElem?_replicate] at h
      split at h <;> cases h
theorem fn_ok {P : Pg} {Pr : Program} {w : World} {K : PySem.W.Frag} {mg : Str → Option Value} {base : Heap} {cv : Nat → Value} {fn : Nat → Str} {k : Nat} {T : Nat → FD} {J : HX} {n : Nat} {df : Df} {f : Addr} {fd : FuncData} {ps : List Str}
    (o : PgOk P K mg cv) (hdg : base.NoDigits) (fs : FnsOk Pr w K mg base cv fn P.gl P.ms k T) (fh : FnsHOk Pr w K mg base cv fn P.gl k J.1 J.2) (hk : 1 ≤ k) (F : DfB K n df f fd ps) : FnOk Pr w K mg base (L2N.CX Pr w) (k + 2) f fd ps (spT ⟨K, cv, fn, none⟩ n (P.run T J df)) := by
  obtain ⟨oc, od, name, qual, params, dV, kV, doc, pm, an, cdv, ct, osl, rfl, lk, hcd⟩ := F.ex
  refine fn_of lk hcd F.sc (fun vs H Q E h => h.1.trans F.np.symm) fun A outer s H vs Q E hr hsp => ?_
  obtain ⟨hn, m, h, ds, rh, r, p⟩ := hsp
  have ok : XOk (cxOf (L2N.CX Pr w) Pr w K mg base df.N qual df.sc f cdv A outer s H E) (P.g T J df) cv fn none :=
    ⟨rfl, F.sc.nd, rfl, (show (A.deeper (PyProof.Rows.envOfC qual df.sc s.heap.objs.size f cdv)).units + 65 < cLine from by have := hr.un; omega), fun _ _ => rfl, fun _ => ⟨rfl, rfl, k, hr, hk, fs⟩, o.gl, o.sub, o.isi, fun _ => ⟨rfl, rfl⟩, o.na, o.xf, fun _ _ _ z => (by cases z), fun _ z => (by cases z), hdg, fun z => (by cases z), fun _ => ⟨k, L2H.roomH_of hr, fh⟩, fun z => (by cases z)⟩
  refine ⟨_, d_Ss (W := fun cls d _ H => E cls d H) (d_all dep) ok (L2N.takes_of rfl rfl rfl rfl) (passes_of rfl) (fun z => by cases z) df.body, ?_⟩
  refine ⟨m, _, h, rh, start_re (T := ⟨K, cv, fn, none⟩) rfl r, ?_⟩
  unfold Pg.run fnRun at p
  have hl := r.length
  cases q : denSs (dd dep) (P.g T J df) df.body (ds.map some ++ List.replicate (df.N.length - ds.length) none) h with
  | stuck => rw [q] at p; exact p.elim
  | exc y e1 h1 =>
    rw [q] at p
    exact fun m1 H1 σ1 cls d1 g1 rh1 _ rx => p m1 H1 cls d1 g1 rh1 rx
  | go fl e1 h1 =>
    rw [q] at p
    cases fl with
    | nx => exact fun m1 H1 σ1 g1 rh1 _ => p m1 H1 .non g1 rh1 .non
    | rt d => exact fun m1 H1 v g1 rh1 rd => p m1 H1 v g1 rh1 rd
    | bk => exact p.elim
    | ct => exact p.elim
theorem fnH_ok {P : Pg} {Pr : Program} {w : World} {K : PySem.W.Frag} {mg : Str → Option Value} {base : Heap} {cv : Nat → Value} {fn : Nat → Str} {k : Nat} {J : HX} {n : Nat} {df : Df} {f : Addr} {fd : FuncData} {ps : List Str}
    (o : PgOk P K mg cv) (hdg : base.NoDigits) (fh : FnsHOk Pr w K mg base cv fn P.gl k J.1 J.2) (F : DfB K n df f fd ps) : FnHX Pr w K mg base (k + 2) f fd ps (fun _ => spT ⟨K, cv, fn, none⟩ n (P.runH J df)) := by
  obtain ⟨oc, od, name, qual, params, dV, kV, doc, pm, an, cdv, ct, osl, rfl, lk, hcd⟩ := F.ex
  refine fnHX_of lk hcd F.sc (fun _ vs H Q E h => h.1.trans F.np.symm) fun A outer s H vs Q E pp hot hr hsp => ?_
  obtain ⟨hn, m, h, ds, rh, r, p⟩ := hsp
  have ok : XOk (L2H.cxH (L2N.CX Pr w) Pr w K mg base df.N qual df.sc f cdv A outer s H E pp) { P.g noT J df with md := .hot } cv fn none :=
    ⟨rfl, F.sc.nd, rfl, (show (A.deeper (PyProof.Rows.envOfC qual df.sc s.heap.objs.size f cdv)).units + 65 < cLine from by have := hr.un; omega), fun _ _ => rfl, fun z => (by cases z), o.gl, o.sub, o.isi, fun z => (by cases z), o.na, o.xf, fun _ _ _ z => (by cases z), fun _ z => (by cases z), hdg, fun _ => rfl, fun z => (by cases z),
      fun _ => ⟨pp, k, ⟨hot.1, hot.2⟩, List.mem_cons_self, hr, fh, fun _ _ _ _ e => nomatch e⟩⟩
  refine ⟨_, d_Ss (W := fun cls d _ H => E cls d H) (d_all dep) ok (L2N.takes_of rfl rfl rfl rfl) (passes_of rfl) (fun z => by cases z) df.body, ?_⟩
  refine ⟨m, _, h, rh, start_re (T := ⟨K, cv, fn, none⟩) rfl r, ?_⟩
  unfold Pg.runH fnRun at p
  have hl := r.length
  cases q : denSs (dd dep) { P.g noT J df with md := .hot } df.body (ds.map some ++ List.replicate (df.N.length - ds.length) none) h with
  | stuck => rw [q] at p; exact p.elim
  | exc y e1 h1 =>
    rw [q] at p
    exact fun m1 H1 σ1 cls d1 g1 rh1 _ rx => p m1 H1 cls d1 g1 rh1 rx
  | go fl e1 h1 =>
    rw [q] at p
    cases fl with
    | nx => exact fun m1 H1 σ1 g1 rh1 _ => p m1 H1 .non g1 rh1 .non
    | rt d => exact fun m1 H1 v g1 rh1 rd => p m1 H1 v g1 rh1 rd
    | bk => exact p.elim
    | ct => exact p.elim
theorem fnX_ok {P : Pg} {Pr : Program} {w : World} {K : PySem.W.Frag} {mg : Str → Option Value} {base : Heap} {cv : Nat → Value} {fn : Nat → Str} {k : Nat} {J : HX} {df : Df} {f : Addr} {fd : FuncData} {ps : List Str}
    (o : PgOk P K mg cv) (hdg : base.NoDigits) (fh : FnsHOk Pr w K mg base cv fn P.gl k J.1 J.2) (F : DfB K 1 df f fd ps) : FnHX Pr w K mg base (k + 2) f fd ps (spTX K cv fn (P.runX J df)) := by
  obtain ⟨oc, od, name, qual, params, dV, kV, doc, pm, an, cdv, ct, osl, rfl, lk, hcd⟩ := F.ex
  refine fnHX_of lk hcd F.sc (fun _ vs H Q E h => by rw [h.1]; exact F.np.symm) fun A outer s H vs Q E pp hot hr hsp => ?_
  obtain ⟨rfl, y, dx, m, h, hz, rh, rx, p⟩ := hsp
  unfold Pg.runX at p
  by_cases hc : (df.sc.names.lookup df.n0 == some .local && okNm df.n0) = true
  · rw [if_pos hc] at p
    rw [Bool.and_eq_true] at hc
    have hl1 : df.sc.names.lookup df.n0 = some .local := by simpa using hc.1
    have hN : ∃ r, df.N = df.n0 :: r := by
      have pre := F.sc.pre
      have np := F.np
      unfold Df.n0
      cases e : df.N with
      | nil => rw [e, List.take_nil] at pre; rw [← pre] at np; cases np
      | cons a r => exact ⟨r, rfl⟩
    obtain ⟨rN, hN⟩ := hN
    have h0 : df.N[0]? = some df.n0 := by rw [hN]; rfl
    have hfld : ∃ vs, pp.2.data = .fields vs := let ⟨vs, e, _⟩ := hot.2; ⟨vs, e⟩
    have ok : XOk (L2H.cxH (L2N.CX Pr w) Pr w K mg base df.N qual df.sc f cdv A outer s H E pp) { P.g noT J df with md := .suite y (some (df.n0, 0)) } cv fn (some (0, pp.1, y, dx)) := by
      refine ⟨rfl, F.sc.nd, rfl, (show (A.deeper (PyProof.Rows.envOfC qual df.sc s.heap.objs.size f cdv)).units + 65 < cLine from by have := hr.un; omega), fun _ _ => rfl, fun z => (by cases z), o.gl, o.sub, o.isi, fun z => (by cases z), o.na, o.xf, fun y' n' i' z => ?_, fun _ z => (by cases z), hdg, fun z => (by cases z), fun z => (by cases z),
        fun _ => ⟨pp, k, ⟨hot.1, hot.2⟩, List.mem_cons_self, hr, fh, fun _ _ _ _ e => by cases e; exact ⟨rfl, hz⟩⟩⟩
      cases z
      refine ⟨h0, hl1, hc.2, pp.1, dx, rfl, fun c2 b hb => ?_, fun f' C e te pos hC T hno he hb => ?_⟩
      · obtain ⟨h1, C, h2, h3⟩ := o.isi _ _ _ hb
        have hz' := hz.zc
        rw [h2] at hz'
        have hcl := isi_at (X := L2H.cxH (L2N.CX Pr w) Pr w K mg base df.N qual df.sc f cdv A outer s H E pp) (a := pp.1) (oe := pp.2) h3 List.mem_cons_self hz' hfld
        intro pins s σ H vs us Q I r q
        obtain ⟨v, rfl, hd, hv, q⟩ := q
        exact hcl pins s σ H _ us Q I r ⟨v, cv c2, b, rfl, hd, hv, by rw [h2] at h1; exact h1, q⟩
      · exact pe_xfAt (a := pp.1) (oe := pp.2) T hno List.mem_cons_self hz.zc hfld he hb
    refine ⟨_, d_Ss (W := fun cls d _ H => E cls d H) (d_all dep) ok (L2N.takes_of rfl rfl rfl rfl) (passes_of rfl) (fun z => by cases z) df.body, ?_⟩
    refine ⟨m, List.replicate df.N.length none, h, rh.ex, ⟨?_, fun i d z => ?_, fun i b x' d' e => ?_⟩, ?_⟩
    · unfold L2.start
      rw [List.length_replicate, List.length_append, List.length_map, List.length_replicate, hN]
      simp only [List.length_cons, List.length_nil]
      omega
    · rw [List.getElem?_replicate] at z
      split at z <;> cases z
    · cases e
      exact ⟨by unfold L2.start; rfl, rx⟩
    · cases q : denSs (dd dep) { P.g noT J df with md := .suite y (some (df.n0, 0)) } df.body (List.replicate df.N.length none) h with
      | stuck => rw [q] at p; exact p.elim
      | exc y e1 h1 =>
        rw [q] at p
        exact fun m1 H1 σ1 cls d1 g1 rh1 _ rx => p m1 H1 cls d1 g1 rh1.ex rx
      | go fl e1 h1 =>
        rw [q] at p
        cases fl with
        | nx => exact fun m1 H1 σ1 g1 rh1 _ => p m1 H1 .non g1 rh1.ex .non
        | rt d => exact fun m1 H1 v g1 rh1 rd => p m1 H1 v g1 rh1.ex rd
        | bk => exact p.elim
        | ct => exact p.elim
  · rw [if_neg hc] at p
    exact p.elim
theorem fnH_none {Pr : Program} {w : World} {K : PySem.W.Frag} {mg : Str → Option Value} {base : Heap} {cv : Nat → Value} {fn : Nat → Str} {k n : Nat} {df : Df} {f : Addr} {fd : FuncData} {ps : List Str} (F : DfB K n df f fd ps) : FnHX Pr w K mg base k f fd ps (fun _ => spT ⟨K, cv, fn, none⟩ n (noT 0)) :=
  ⟨fun _ vs H Q E z => z.1.trans F.np.symm, fun A outer s H args us vs Q E _ _ _ _ _ _ _ z => by
    obtain ⟨_, m, h, ds, _, _, p⟩ := z
    exact p.elim⟩
theorem fnX_none {Pr : Program} {w : World} {K : PySem.W.Frag} {mg : Str → Option Value} {base : Heap} {cv : Nat → Value} {fn : Nat → Str} {k n : Nat} {df : Df} {f : Addr} {fd : FuncData} {ps : List Str} (F : DfB K 1 df f fd ps) : FnHX Pr w K mg base k f fd ps (spTX K cv fn (fun _ _ => .stuck)) :=
  ⟨fun _ vs H Q E z => by rw [z.1]; exact F.np.symm, fun A outer s H args us vs Q E _ _ _ _ _ _ _ z => by
    obtain ⟨_, y, dx, m, h, _, _, _, p⟩ := z
    exact p.elim⟩
theorem fnsH_ok {P : Pg} {Pr : Program} {w : World} {K : PySem.W.Frag} {mg : Str → Option Value} {base : Heap} {cv : Nat → Value} {fn : Nat → Str} (o : PgOk P K mg cv) (hdg : base.NoDigits) : ∀ k, FnsHOk Pr w K mg base cv fn P.gl (2 * k + 2) (P.hx k).1 (P.hx k).2 := by
  have key : ∀ {k : Nat} {J : HX}, (∀ {id n : Nat} {df : Df} {f : Addr} {fd : FuncData} {ps : List Str}, P.defs[id]? = some df → DfB K n df f fd ps → FnHX Pr w K mg base k f fd ps (fun _ => spT ⟨K, cv, fn, none⟩ n (J.1 id)) ∧ (n = 1 → FnHX Pr w K mg base k f fd ps (spTX K cv fn (J.2 id)))) → FnsHOk Pr w K mg base cv fn P.gl k J.1 J.2 := fun hF => ⟨fun x id n dv h => by
    obtain ⟨df, f, fd, ps, h1, Q⟩ := o.defs x id n dv h
    obtain ⟨dvs, a, c⟩ := Q.dv
    obtain ⟨ws, v, b⟩ := c dv.length (Nat.le_refl _)
    have hl : dv.length = dvs.length := (a (fun _ => 0) 0 (fun _ => none)).length
    rw [hl, List.drop_length] at v
    cases v
    obtain ⟨q1, q2⟩ := hF h1 Q.toDfB
    exact ⟨f, fd, ps, Q.at_, Q.kp, Q.np, q1, q2, b⟩⟩
  intro k
  induction k with
  | zero => exact key fun h1 Q => ⟨fnH_none Q, fun e => by subst e; exact fnX_none (n := 1) Q⟩
  | succ k ih =>
    refine key fun {id n df f fd ps} h1 Q => ?_
    have e1 : (P.hx (k + 1)).1 id = P.runH (P.hx k) df := by
      show (match P.defs[id]? with | some df => P.runH (P.hx k) df | none => noT 0) = _
      rw [h1]
    have e2 : (P.hx (k + 1)).2 id = P.runX (P.hx k) df := by
      funext y
      show (match P.defs[id]? with | some df => P.runX (P.hx k) df y | none => fun _ => Mn.R.stuck) = _
      rw [h1]
    rw [e1, e2]
    exact ⟨fnH_ok o hdg ih Q, fun e => by subst e; exact fnX_ok o hdg ih Q⟩
theorem fn_none {Pr : Program} {w : World} {K : PySem.W.Frag} {mg : Str → Option Value} {base : Heap} {cv : Nat → Value} {fn : Nat → Str} {k n : Nat} {df : Df} {f : Addr} {fd : FuncData} {ps : List Str} (F : DfB K n df f fd ps) : FnOk Pr w K mg base (L2N.CX Pr w) k f fd ps (spT ⟨K, cv, fn, none⟩ n fun _ _ => .stuck) :=
  ⟨fun vs H Q E z => z.1.trans F.np.symm, fun A outer s H args us vs Q E _ _ _ _ z => by
    obtain ⟨_, m, h, ds, _, _, p⟩ := z
    exact p.elim⟩
theorem fns_of {P : Pg} {Pr : Program} {w : World} {K : PySem.W.Frag} {mg : Str → Option Value} {base : Heap} {cv : Nat → Value} {fn : Nat → Str} {k : Nat} {T : Nat → FD} (o : PgOk P K mg cv)
    (F : ∀ {id n : Nat} {df : Df} {f : Addr} {fd : FuncData} {ps : List Str}, P.defs[id]? = some df → DfB K n df f fd ps → FnOk Pr w K mg base (L2N.CX Pr w) k f fd ps (spT ⟨K, cv, fn, none⟩ n (T id))) : FnsOk Pr w K mg base cv fn P.gl P.ms k T where
  fns := fun x id n dv h => by
    obtain ⟨df, f, fd, ps, h1, Q⟩ := o.defs x id n dv h
    obtain ⟨dvs, a, c⟩ := Q.dv
    exact ⟨f, fd, ps, dvs, Q.at_, Q.kp, Q.np, F h1 Q.toDfB, a, c⟩
  cls := fun x c id n dv pc ks h => by
    obtain ⟨df, C, g, fd, ps, h1, Q⟩ := o.cls x c id n dv pc ks h
    obtain ⟨dvs, a, b⟩ := Q.dvs
    exact ⟨C, g, fd, ps, dvs, Q.at_, Q.hC, Q.cl, Q.mk', Q.np, F h1 Q.toDfB, a, b, Q.kvs⟩
  mts := fun m l h e he => by
    obtain ⟨df, C, g, fd, ps, h1, hC, M, Q, dvs, a, c⟩ := o.mts m l h e he
    exact ⟨C, g, fd, ps, dvs, hC, M, Q.np, F h1 Q, a, c⟩
theorem fns_ok {P : Pg} {Pr : Program} {w : World} {K : PySem.W.Frag} {mg : Str → Option Value} {base : Heap} {cv : Nat → Value} {fn : Nat → Str} (o : PgOk P K mg cv) (hdg : base.NoDigits) : ∀ k, FnsOk Pr w K mg base cv fn P.gl P.ms (2 * k + 2) (P.tbl k)
  | 0 => fns_of o fun _ Q => fn_none Q
  | k + 1 => fns_of o fun {id n df f fd ps} h1 Q => by
    have e : P.tbl (k + 1) id = P.run (P.tbl k) (P.hx k) df := by
      show (match P.defs[id]? with | some df => P.run (P.tbl k) (P.hx k) df | none => fun _ _ => Mn.R.stuck) = _
      rw [h1]
    rw [e]
    exact fn_ok o hdg (fns_ok o hdg k) (fnsH_ok o hdg k) (by omega) Q
def glAll (K : PySem.W.Frag) (mg : Str → Option Value) (cv : Nat → Value) : List (Str × GV) → Prop
  | [] => True
  | p :: r => GlOk K mg cv p.1 p.2 ∧ glAll K mg cv r
theorem glAll_of {K : PySem.W.Frag} {mg : Str → Option Value} {cv : Nat → Value} : ∀ {l : List (Str × GV)}, glAll K mg cv l → ∀ x v, l.lookup x = some v → GlOk K mg cv x v
  | [], _, _, _, h => by cases h
  | (y, u) :: r, a, x, v, h => by
    rw [List.lookup_cons] at h
    cases hb : x == y with
    | true =>
      rw [hb] at h
      cases h
      have e : x = y := by simpa using hb
      rw [e]
      exact a.1
    | false =>
      rw [hb] at h
      exact glAll_of a.2 x v h
def dfAll (P : List Df) (K : PySem.W.Frag) (mg : Str → Option Value) : List (Str × GV) → Prop
  | [] => True
  | (x, .fn id n dv) :: r => (∃ df f fd ps, P[id]? = some df ∧ DfOk K mg x n dv df f fd ps) ∧ dfAll P K mg r
  | _ :: r => dfAll P K mg r
theorem dfAll_tail {P : List Df} {K : PySem.W.Frag} {mg : Str → Option Value} {p : Str × GV} {r : List (Str × GV)} (a : dfAll P K mg (p :: r)) : dfAll P K mg r := by
  obtain ⟨y, u⟩ := p
  cases u <;> first | exact a.2 | exact a
theorem dfAll_of {P : List Df} {K : PySem.W.Frag} {mg : Str → Option Value} : ∀ {l : List (Str × GV)}, dfAll P K mg l → ∀ x id n dv, l.lookup x = some (.fn id n dv) → ∃ df f fd ps, P[id]? = some df ∧ DfOk K mg x n dv df f fd ps
  | [], _, _, _, _, _, h => by cases h
  | (y, u) :: r, a, x, id, n, dv, h => by
    rw [List.lookup_cons] at h
    cases hb : x == y with
    | true =>
      rw [hb] at h
      cases h
      have e : x = y := by simpa using hb
      rw [e]
      exact a.1
    | false =>
      rw [hb] at h
      exact dfAll_of (dfAll_tail a) x id n dv h
def tb2 (l : List (Nat × Nat × Bool)) : Nat → Nat → Option Bool := fun a b => (l.find? fun t => t.1 == a && t.2.1 == b).map (·.2.2)
def tbAll (Q : Nat → Nat → Bool → Prop) : List (Nat × Nat × Bool) → Prop
  | [] => True
  | t :: r => Q t.1 t.2.1 t.2.2 ∧ tbAll Q r
theorem tbAll_of {Q : Nat → Nat → Bool → Prop} : ∀ {l : List (Nat × Nat × Bool)}, tbAll Q l → ∀ a b k, tb2 l a b = some k → Q a b k
  | [], _, _, _, _, h => by cases h
  | t :: r, q, a, b, k, h => by
    unfold tb2 at h
    rw [List.find?_cons] at h
    cases hb : (t.1 == a && t.2.1 == b) with
    | true =>
      rw [hb] at h
      cases h
      rw [Bool.and_eq_true] at hb
      have e1 : t.1 = a := by simpa using hb.1
      have e2 : t.2.1 = b := by simpa using hb.2
      rw [← e1, ← e2]
      exact q.1
    | false =>
      rw [hb] at h
      exact tbAll_of q.2 a b k h
def clAll (P : List Df) (K : PySem.W.Frag) (mg : Str → Option Value) (cv : Nat → Value) : List (Str × GV) → Prop
  | [] => True
  | (x, .ucls c id n dv pc ks) :: r => (∃ df C g fd ps, P[id]? = some df ∧ ClOk K mg cv x c n dv pc ks df C g fd ps) ∧ clAll P K mg cv r
  | _ :: r => clAll P K mg cv r
theorem clAll_tail {P : List Df} {K : PySem.W.Frag} {mg : Str → Option Value} {cv : Nat → Value} {p : Str × GV} {r : List (Str × GV)} (a : clAll P K mg cv (p :: r)) : clAll P K mg cv r := by
  obtain ⟨y, u⟩ := p
  cases u <;> first | exact a.2 | exact a
theorem clAll_of {P : List Df} {K : PySem.W.Frag} {mg : Str → Option Value} {cv : Nat → Value} : ∀ {l : List (Str × GV)}, clAll P K mg cv l → ∀ x c id n dv pc ks, l.lookup x = some (.ucls c id n dv pc ks) → ∃ df C g fd ps, P[id]? = some df ∧ ClOk K mg cv x c n dv pc ks df C g fd ps
  | [], _, _, _, _, _, _, _, _, h => by cases h
  | (y, u) :: r, a, x, c, id, n, dv, pc, ks, h => by
    rw [List.lookup_cons] at h
    cases hb : x == y with
    | true =>
      rw [hb] at h
      cases h
      have e : x = y := by simpa using hb
      rw [e]
      exact a.1
    | false =>
      rw [hb] at h
      exact clAll_of (clAll_tail a) x c id n dv pc ks h
def meAll1 (P : List Df) (K : PySem.W.Frag) (cv : Nat → Value) (m : Str) : List (Nat × Nat × Nat × List D) → Prop
  | [] => True
  | e :: r => MeOk P K cv m e ∧ meAll1 P K cv m r
def meAll (P : List Df) (K : PySem.W.Frag) (cv : Nat → Value) : List (Str × List (Nat × Nat × Nat × List D)) → Prop
  | [] => True
  | p :: r => meAll1 P K cv p.1 p.2 ∧ meAll P K cv r
theorem meAll1_of {P : List Df} {K : PySem.W.Frag} {cv : Nat → Value} {m : Str} : ∀ {l : List (Nat × Nat × Nat × List D)}, meAll1 P K cv m l → ∀ e ∈ l, MeOk P K cv m e
  | [], _, _, h => by cases h
  | e :: r, a, e', h => by
    rcases List.mem_cons.mp h with h | h
    · rw [h]; exact a.1
    · exact meAll1_of a.2 e' h
theorem meAll_of {P : List Df} {K : PySem.W.Frag} {cv : Nat → Value} : ∀ {l : List (Str × List (Nat × Nat × Nat × List D))}, meAll P K cv l → ∀ m q, l.lookup m = some q → ∀ e ∈ q, MeOk P K cv m e
  | [], _, _, _, h, _, _ => by cases h
  | (y, u) :: r, a, m, q, h, e, he => by
    rw [List.lookup_cons] at h
    cases hb : m == y with
    | true =>
      rw [hb] at h
      cases h
      have em : m = y := by simpa using hb
      rw [em]
      exact meAll1_of a.1 e he
    | false =>
      rw [hb] at h
      exact meAll_of a.2 m q h e he
def noAll (K : PySem.W.Frag) (C : Addr) : List Nat → Prop
  | [] => True
  | f :: r => NoAttr K C (fnm f) ∧ noAll K C r
def naAll (K : PySem.W.Frag) (cv : Nat → Value) : List (Nat × List Nat) → Prop
  | [] => True
  | p :: r => (∀ C, cv p.1 = .ref C → noAll K C p.2) ∧ naAll K cv r
theorem noAll_of {K : PySem.W.Frag} {C : Addr} : ∀ {l : List Nat}, noAll K C l → ∀ f, l.elem f = true → NoAttr K C (fnm f)
  | [], _, _, h => by cases h
  | g :: r, a, f, h => by
    rw [List.elem_cons] at h
    cases hb : f == g with
    | true =>
      have e : f = g := by simpa using hb
      rw [e]
      exact a.1
    | false =>
      rw [hb] at h
      exact noAll_of a.2 f h
theorem naAll_of {K : PySem.W.Frag} {cv : Nat → Value} : ∀ {l : List (Nat × List Nat)}, naAll K cv l → ∀ c f, ((l.lookup c).getD []).elem f = true → ∀ C, cv c = .ref C → NoAttr K C (fnm f)
  | [], _, _, _, h, _, _ => by cases h
  | (d, fs) :: r, a, c, f, h, C, e => by
    rw [List.lookup_cons] at h
    cases hb : c == d with
    | true =>
      rw [hb] at h
      have e1 : c = d := by simpa using hb
      subst e1
      exact noAll_of (a.1 C e) f h
    | false =>
      rw [hb] at h
      exact naAll_of a.2 c f h C e
def xaOf (l : List (Nat × List Nat)) (c : Nat) : List Nat := (l.lookup c).getD []
def xfAll (K : PySem.W.Frag) (cv : Nat → Value) : List (Nat × List Nat) → Prop
  | [] => True
  | p :: r => (∃ C, cv p.1 = .ref C ∧ XfC K C ∧ noAll K C p.2) ∧ xfAll K cv r
theorem xfAll_of {K : PySem.W.Frag} {cv : Nat → Value} : ∀ {l : List (Nat × List Nat)}, xfAll K cv l → ∀ c f, (xaOf l c).elem f = true → ∃ C, cv c = .ref C ∧ XfC K C ∧ PySem.W.findIn K (.ref C) (fnm f) = some none
  | [], _, _, _, h => by cases h
  | (d, fs) :: r, a, c, f, h => by
    unfold xaOf at h
    rw [List.lookup_cons] at h
    cases hb : c == d with
    | true =>
      rw [hb] at h
      have e1 : c = d := by simpa using hb
      subst e1
      obtain ⟨C, h1, h2, h3⟩ := a.1
      exact ⟨C, h1, h2, noAll_of h3 f h⟩
    | false =>
      rw [hb] at h
      exact xfAll_of a.2 c f h
theorem dfb_mk {K : PySem.W.Frag} {x qual : Str} {st : Stmt} {f : Addr} {oc : Value} {od an : Option Addr} {osl : Array (Option Value)} {dV kV doc pm cdv ct : Value} {N ps : List Str}
    (l : K.lookup f = some ⟨oc, od, .func (PySem.W.fnOf x qual (defArgs st) (defBody st) (defScope st) dV kV doc pm an cdv ct), osl⟩) (c : PySem.W.codeIn K cdv qual = true) (S : FnScope N ps (defScope st)) :
    DfB K ps.length ⟨N, defScope st, defBody st⟩ f (PySem.W.fnOf x qual (defArgs st) (defBody st) (defScope st) dV kV doc pm an cdv ct) ps :=
  ⟨⟨oc, od, x, qual, _, _, kV, doc, pm, an, cdv, ct, osl, rfl, l, c⟩, rfl, S⟩
theorem dfd_mk {K : PySem.W.Frag} {x qual : Str} {st : Stmt} {kV doc pm cdv ct : Value} {an : Option Addr} {ps : List Str}
    (hb : ∀ (kV doc pm : Value) (an : Option Addr) (cdv ct : Value) (us : List Value), us.length = ps.length → bindArgs (PySem.W.fnOf x qual (defArgs st) (defBody st) (defScope st) .none kV doc pm an cdv ct) ⟨us, []⟩ = pure (ps.zip us)) :
    DfD K [] (PySem.W.fnOf x qual (defArgs st) (defBody st) (defScope st) .none kV doc pm an cdv ct) ps :=
  ⟨[], fun _ _ _ => .nil, fun j hj => ⟨[], by rw [List.drop_nil]; exact .nil, .all (hb kV doc pm an cdv ct)⟩⟩
theorem df_mk {K : PySem.W.Frag} {h : Heap} {mg : Str → Option Value} {x : Str} {st : Stmt} {f : Addr} {oc : Value} {od an : Option Addr} {osl : Array (Option Value)} {kV doc pm cdv ct : Value} {N ps : List Str} (X : K.In h) (G : h.Ns mainGlobals mg)
    (a : PySem.W.nsIn K mainGlobals x = some (some (.ref f))) (l : K.lookup f = some ⟨oc, od, .func (PySem.W.fnOf x x (defArgs st) (defBody st) (defScope st) .none kV doc pm an cdv ct), osl⟩) (c : PySem.W.codeIn K cdv x = true) (k : PySem.W.keepIn K (.ref f) = true)
    (S : FnScope N ps (defScope st)) (hb : ∀ (kV doc pm : Value) (an : Option Addr) (cdv ct : Value) (us : List Value), us.length = ps.length → bindArgs (PySem.W.fnOf x x (defArgs st) (defBody st) (defScope st) .none kV doc pm an cdv ct) ⟨us, []⟩ = pure (ps.zip us)) :
    ∃ fd, DfOk K mg x ps.length [] ⟨N, defScope st, defBody st⟩ f fd ps :=
  ⟨_, ⟨dfb_mk l c S, PySem.W.mg_of X G a, k, fun _ => hb kV doc pm an cdv ct, dfd_mk hb⟩⟩
theorem dfd_mkD {K : PySem.W.Frag} {x qual : Str} {st : Stmt} {f T : Addr} {oc : Value} {od an : Option Addr} {osl : Array (Option Value)} {kV doc pm cdv ct : Value} {ps : List Str} {ob : Obj} {its : List Value} {nn : Nat} {dv : List D} {dvs : List V}
    (l : K.lookup f = some ⟨oc, od, .func (PySem.W.fnOf x qual (defArgs st) (defBody st) (defScope st) (.ref T) kV doc pm an cdv ct), osl⟩) (c : PySem.W.codeIn K cdv qual = true) (k : PySem.W.keepIn K (.ref f) = true)
    (lT : K.lookup T = some ob) (oT : ob.data = .seq its.toArray nn) (rT : Vals dvs its) (rd : ∀ m N H, RDs K m N H dv dvs) (hne : dvs ≠ [])
    (hb : ∀ j, j ≤ dv.length → ∀ (T : Addr) (kV doc pm : Value) (an : Option Addr) (cdv ct : Value) (us its : List Value), us.length = ps.length - (dvs.length - j) → its.length = dvs.length → ∃ k, bindArgs (PySem.W.fnOf x qual (defArgs st) (defBody st) (defScope st) (.ref T) kV doc pm an cdv ct) ⟨us, []⟩ = seqItems? (.ref T) >>= k ∧ k (some its.toArray) = pure (ps.zip (us ++ its.drop j)))
    (hl : dvs.length ≤ ps.length) : DfD K dv (PySem.W.fnOf x qual (defArgs st) (defBody st) (defScope st) (.ref T) kV doc pm an cdv ct) ps :=
  ⟨dvs, rd, fun j hj => FunD.binds1 (kws := []) ⟨⟨oc, od, .ref T, kV, doc, pm, an, cdv, ct, osl, rfl, l, c, .inr ⟨hne, T, ob, its, nn, rfl, lT, oT, rT⟩, .inl rfl⟩, k⟩ (ps.length - (dvs.length - j)) j hne (by omega) (hb j hj)⟩
theorem df_mkD {K : PySem.W.Frag} {h : Heap} {mg : Str → Option Value} {x : Str} {st : Stmt} {f T : Addr} {oc : Value} {od an : Option Addr} {osl : Array (Option Value)} {kV doc pm cdv ct : Value} {N ps : List Str} {ob : Obj} {its : List Value} {nn : Nat} {dv : List D} {dvs : List V} (X : K.In h) (G : h.Ns mainGlobals mg)
    (a : PySem.W.nsIn K mainGlobals x = some (some (.ref f))) (l : K.lookup f = some ⟨oc, od, .func (PySem.W.fnOf x x (defArgs st) (defBody st) (defScope st) (.ref T) kV doc pm an cdv ct), osl⟩) (c : PySem.W.codeIn K cdv x = true) (k : PySem.W.keepIn K (.ref f) = true)
    (lT : K.lookup T = some ob) (oT : ob.data = .seq its.toArray nn) (rT : Vals dvs its) (rd : ∀ m N H, RDs K m N H dv dvs) (hne : dvs ≠ [])
    (S : FnScope N ps (defScope st)) (hb : ∀ j, j ≤ dv.length → ∀ (T : Addr) (kV doc pm : Value) (an : Option Addr) (cdv ct : Value) (us its : List Value), us.length = ps.length - (dvs.length - j) → its.length = dvs.length → ∃ k, bindArgs (PySem.W.fnOf x x (defArgs st) (defBody st) (defScope st) (.ref T) kV doc pm an cdv ct) ⟨us, []⟩ = seqItems? (.ref T) >>= k ∧ k (some its.toArray) = pure (ps.zip (us ++ its.drop j)))
    (hl : dvs.length ≤ ps.length) : ∃ fd, DfOk K mg x ps.length dv ⟨N, defScope st, defBody st⟩ f fd ps :=
  ⟨_, ⟨dfb_mk l c S, PySem.W.mg_of X G a, k, fun z => absurd (by rw [z] at rd; exact (by cases rd (fun _ => f) 0 (fun _ => none); rfl)) hne, dfd_mkD l c k lT oT rT rd hne hb hl⟩⟩
theorem law_sp {P : Pg} {K : PySem.W.Frag} {cv : Nat → Value} {fn : Nat → Str} {k id : Nat} {q : List Int → Prop} (hl : ∀ ns : List Int, q ns → ∃ h, P.tbl k id [.ref 0] [.frz (ns.map .int)] = .ok (.bl true) h)
    {H : Hp} {a : Addr} {ns : List Int} (h63 : q ns) (hO : Only H) (hS : SqL K H a (ns.map V.int)) : spT ⟨K, cv, fn, none⟩ 1 (P.tbl k id) [.ref a] H (fun v _ => v = .bl true) fun _ _ _ => False := by
  obtain ⟨h', e⟩ := hl ns h63
  have fz : FzL K H a (ns.map V.int) := by
    rcases hS with (hS | hS) | hS
    · rcases hO a with z | ⟨o, xs, z⟩
      · rw [z] at hS; cases hS
      · rw [z] at hS; cases hS
    · exact .inl hS
    · exact .inr hS
  have hints : ∀ (l : List Int), RDs K (fun _ => a) 1 H (l.map D.int) (l.map V.int) := fun l => by
    induction l with
    | nil => exact .nil
    | cons i r ih => exact .cons (.int i) ih
  refine ⟨rfl, fun _ => a, [.frz (ns.map .int)], [.ref 0], ⟨fun n o hn => ?_, fun i j o u h1 h2 f1 f2 _ => ?_⟩, .cons (.ref (Nat.zero_lt_one)) .nil, ?_⟩
  · match n, hn with
    | 0, hn =>
      cases hn
      exact ⟨_, fz, hints ns⟩
    | n + 1, hn => simp at hn
  · match i, h1 with
    | 0, h1 => cases h1; cases f1
    | i + 1, h1 => simp at h1
  · rw [e]
    intro m1 H1 v g1 rh1 r
    cases r
    rfl
end Mn
namespace Mn
open PySem L2
theorem kb_mk0 {K : PySem.W.Frag} {fd : FuncData} {ps ks : List Str} {n m : Nat} {kp : List KP} (hb : ∀ us ws : List Value, us.length = n + 1 → ws.length = ks.length → bindArgs fd ⟨us, ks.zip ws⟩ = pure (ps.zip (gKP kp us [] ws)))
    (hn : ∀ us mv ws : List D, us.length = n + 1 → mv.length = 0 → ws.length = ks.length → (gKP kp us mv ws).length = m) : KsOk K fd ps m (n, ks, kp, []) :=
  ⟨[], [], fun _ _ _ => .nil, ⟨fun s us ws X l1 l2 => .of_eq (hb us ws l1 l2), fun r1 r2 => gKP_vals r1 .nil r2 kp⟩, hn⟩
def ksAll (K : PySem.W.Frag) (fd : FuncData) (ps : List Str) (n : Nat) : List (Nat × List Str × List KP × List D) → Prop
  | [] => True
  | t :: r => KsOk K fd ps n t ∧ ksAll K fd ps n r
theorem ksAll_of {K : PySem.W.Frag} {fd : FuncData} {ps : List Str} {n : Nat} : ∀ {l : List (Nat × List Str × List KP × List D)}, ksAll K fd ps n l → ∀ t ∈ l, KsOk K fd ps n t
  | [], _, _, h => by cases h
  | e :: r, a, e', h => by
    rcases List.mem_cons.mp h with h | h
    · rw [h]; exact a.1
    · exact ksAll_of a.2 e' h
structure XcW (K : PySem.W.Frag) (x : Str) (C f : Addr) (qual : Str) (st : Stmt) (ps : List Str) (fd : FuncData) : Prop where
  aC : PySem.W.nsIn K mainGlobals x = some (some (.ref C))
  kC : PySem.W.keepIn K (.ref C) = true
  T : OexC K C
  iC : PySem.W.findIn K (.ref C) "__init__" = some (some (.ref f))
  tI : PySem.W.typeIn K (.ref f) = some (.type "function")
  l : ∃ (oc : Value) (od an : Option Addr) (osl : Array (Option Value)) (kV doc pm cdv ct : Value), fd = PySem.W.fnOf "__init__" qual (defArgs st) (defBody st) (defScope st) .none kV doc pm an cdv ct ∧ K.lookup f = some ⟨oc, od, .func fd, osl⟩ ∧ PySem.W.codeIn K cdv qual = true
  S : FnScope ps ps (defScope st)
  bd : ∀ us : List Value, us.length = ps.length → bindArgs fd ⟨us, []⟩ = pure (ps.zip us)
theorem xcls1 {K : PySem.W.Frag} {h : Heap} {mg : Str → Option Value} {cv : Nat → Value} {x qual p : Str} {c i : Nat} {st : Stmt} {C f : Addr} {fd : FuncData} {p1 p2 p3 p4 : Pos} (X : K.In h) (G : h.Ns mainGlobals mg) (e : cv c = .ref C) (w : XcW K x C f qual st ["self", p] fd)
    (hn : PySem.W.findIn K (.ref C) (fnm i) = some none) (hb : defBody st = [.Assign [.Attribute (.Name "self" p1) (fnm i) p2] (.Name p p3) p4]) (h1 : (p == ("__debug__" : Str)) = false) (h2 : (p == ("__classdict__" : Str)) = false) : GlOk K mg cv x (.xcls c [i]) := by
  obtain ⟨aC, kC, T, iC, tI, ⟨oc, od, an, osl, kV, doc, pm, cdv, ct, rfl, l, hc⟩, S, bd⟩ := w
  refine ⟨C, e, PySem.W.mg_of X G aC, kC, T, f, _, ["self", p], iC, tI, fun P w mg base CX => ?_, .all bd⟩
  rw [hb] at l ⊢
  exact xinit1 l hc S h1 h2 T hn
end Mn
namespace Mn
open PySem PySem.Spec PyProof.Rows L2
section
variable {K : PySem.W.Frag} {x qual : Str} {params : Arguments} {body : List Stmt} {scope : Scope} {D : Addr} {doc pm cdv ct : Value} {an : Option Addr} {ps : List Str}
end
end Mn
namespace Mn
open PySem PySem.Spec PyProof.Rows L2
end Mn
namespace Mn
open PySem L2 PySem.Spec PyProof.Rows
theorem no_cx {P : Program} {w : World} {H : Hp} {s : Shared} {e : Value} {s' : Shared} (c : L2N.CX P w [] H s (fun _ _ _ => False) e s') : False := by
  obtain ⟨_, _, _, _, _, _, _, _, _, _, _, _, z⟩ := c
  exact z
theorem walk_mn {l : PySem.W.OpenLaw} {n k id : Nat} {q : Program} {loose : List Str} {XP : (Str → Option Value) → Heap → Prop} {YP : World → Heap → Prop} {d : DefRec} {K : Params → PySem.W.Frag} {x : Str} {P : Pg}
    (hn : l.most = some n) (hn2 : n ≤ sizeLine) (hdf : d.params.defaults = []) (hr : Room (2 * k + 4) callerA)
    (hY : ∀ (w : World) (h : Heap), YP w h → (K w.params).In h)
    (hl : ∀ ns : List Int, ns.length ≤ n → (∀ z ∈ ns, Builtin.Int.intBits z ≤ 1048576) → ∃ h, P.tbl (k + 1) id [.ref 0] [.frz (ns.map .int)] = .ok (.bl true) h)
    (F : ∀ (w : World) (mg : Str → Option Value) (h : Heap), (K w.params).In h → h.Ns mainGlobals mg → ∃ cv df f fd, P.defs[id]? = some df ∧ PgOk P (K w.params) mg cv ∧ DfOk (K w.params) mg d.name 1 [] df f fd [x]) :
    PySem.W.WalkO q loose XP YP l.row.toRowW d [] (fun f vs => PySem.call f vs) := by
  refine Att.attach_callB hn hdf fun w s₀ s₁ mg mb fa o pm cd doc a vs ns G Y ho hd hcd hmg hobj hints hlen hbits hg => ?_
  have KX := hY w _ Y
  obtain ⟨cv, df, f, fd, hdf, hP, hD⟩ := F w mg _ KX G.T.g
  have ef : f = fa := by
    have e := hD.at_
    rw [hmg] at e
    cases e
    rfl
  subst ef
  refine law_callD (CX := L2N.CX l.prog w) (x := x) (fd := fd) (sp := spT ⟨K w.params, cv, fun _ => .ofString "", none⟩ 1 (P.tbl (k + 1) id)) KX G.T.g G.T.b G.T.builtins G.T.nolimit G.T.nodigits hg hobj hints (Nat.le_trans hlen hn2) hr (fun base h1 hdg => ?_) (fun s u => .of_eq (hD.b0 rfl [u] rfl)) (fun H hO hS => law_sp (q := fun ns => ns.length ≤ n ∧ ∀ z ∈ ns, Builtin.Int.intBits z ≤ 1048576) (fun ns h => ?_) ⟨hlen, hbits⟩ hO hS) fun H e s' c => no_cx c
  · have e : P.tbl (k + 1) id = P.run (P.tbl k) (P.hx k) df := by
      show (match P.defs[id]? with | some df => P.run (P.tbl k) (P.hx k) df | none => fun _ _ => Mn.R.stuck) = _
      rw [hdf]
    rw [e]
    exact fn_ok hP hdg (fns_ok hP hdg k) (fnsH_ok hP hdg k) (by omega) hD.toDfB
  · exact hl ns h.1 h.2
end Mn
namespace Mn
open PySem
inductive Y where
  | non | bl (b : Bool) | int (i : Int) | str (s : Str) | tup (ys : List Y) | lst (ys : List Y) | ins (c : Nat) (fs : List (Nat × Y)) | own (n : Nat) | frz (ys : List Y) | rg (lo hi : Int)
  deriving Inhabited
inductive C where
  | lst (ys : List Y) | ins (c : Nat) (fs : List (Nat × Y))
abbrev OC := List (Nat × C)
abbrev Vw := Nat → Option O
structure Xy where
  cls : Nat
  fs : List (Nat × Y) := []
abbrev Ey := List (Option Y)
abbrev OC.ks (o : OC) : List Nat := o.map (·.1)
mutual
inductive RY (v : Vw) : D → Y → Prop
  | non : RY v .non .non
  | bl (b : Bool) : RY v (.bl b) (.bl b)
  | int (i : Int) : RY v (.int i) (.int i)
  | str (s : Str) : RY v (.str s) (.str s)
  | tup {ds : List D} {ys : List Y} : RYs v ds ys → RY v (.tup ds) (.tup ys)
  | lst {n : Nat} {ds : List D} {ys : List Y} : v n = some (.lst ds) → RYs v ds ys → RY v (.ref n) (.lst ys)
  | frz {n : Nat} {ds : List D} {ys : List Y} : v n = some (.frz ds) → RYs v ds ys → RY v (.ref n) (.frz ys)
  | ins {n : Nat} {c : Nat} {ds : List (Nat × D)} {fs : List (Nat × Y)} : v n = some (.ins c ds) → RFs v ds fs → RY v (.ref n) (.ins c fs)
  | own {n : Nat} : RY v (.ref n) (.own n)
  | rg (lo hi : Int) : RY v (.rg lo hi) (.rg lo hi)
inductive RYs (v : Vw) : List D → List Y → Prop
  | nil : RYs v [] []
  | cons {d : D} {y : Y} {ds : List D} {ys : List Y} : RY v d y → RYs v ds ys → RYs v (d :: ds) (y :: ys)
inductive RFs (v : Vw) : List (Nat × D) → List (Nat × Y) → Prop
  | nil : RFs v [] []
  | cons {n : Nat} {d : D} {y : Y} {ds : List (Nat × D)} {ys : List (Nat × Y)} : RY v d y → RFs v ds ys → RFs v ((n, d) :: ds) ((n, y) :: ys)
end
abbrev Vle (v v' : Vw) : Prop := ∀ n x, v n = some x → v' n = some x
mutual
theorem RY.mono {v v' : Vw} (l : Vle v v') : ∀ {d : D} {y : Y}, RY v d y → RY v' d y
  | _, _, .non => .non
  | _, _, .bl b => .bl b
  | _, _, .int i => .int i
  | _, _, .str s => .str s
  | _, _, .tup r => .tup (RYs.mono l r)
  | _, _, .lst e r => .lst (l _ _ e) (RYs.mono l r)
  | _, _, .frz e r => .frz (l _ _ e) (RYs.mono l r)
  | _, _, .ins e r => .ins (l _ _ e) (RFs.mono l r)
  | _, _, .own => .own
  | _, _, .rg a b => .rg a b
theorem RYs.mono {v v' : Vw} (l : Vle v v') : ∀ {ds : List D} {ys : List Y}, RYs v ds ys → RYs v' ds ys
  | _, _, .nil => .nil
  | _, _, .cons a r => .cons (RY.mono l a) (RYs.mono l r)
theorem RFs.mono {v v' : Vw} (l : Vle v v') : ∀ {ds : List (Nat × D)} {ys : List (Nat × Y)}, RFs v ds ys → RFs v' ds ys
  | _, _, .nil => .nil
  | _, _, .cons a r => .cons (RY.mono l a) (RFs.mono l r)
end
section
variable {v : Vw}
theorem RYs.length : ∀ {ds : List D} {ys : List Y}, RYs v ds ys → ds.length = ys.length
  | _, _, .nil => rfl
  | _, _, .cons _ r => congrArg Nat.succ (RYs.length r)
theorem RYs.get : ∀ {ds : List D} {ys : List Y} {i : Nat} {y : Y}, RYs v ds ys → ys[i]? = some y → ∃ d, ds[i]? = some d ∧ RY v d y
  | _, _, _, _, .nil, e => by simp at e
  | _, _, 0, _, .cons r _, e => by simp at e; subst e; exact ⟨_, rfl, r⟩
  | _, _, i + 1, d, .cons _ r, e => by
    obtain ⟨v, h1, h2⟩ := RYs.get (i := i) (y := d) r (by simpa using e)
    exact ⟨v, by simpa using h1, h2⟩
theorem RYs.append : ∀ {ds es : List D} {ys zs : List Y}, RYs v ds ys → RYs v es zs → RYs v (ds ++ es) (ys ++ zs)
  | _, _, _, _, .nil, s => s
  | _, _, _, _, .cons r t, s => .cons r (RYs.append t s)
theorem RYs.snoc {ds : List D} {ys : List Y} {d : D} {y : Y} (a : RYs v ds ys) (b : RY v d y) : RYs v (ds ++ [d]) (ys ++ [y]) := a.append (.cons b .nil)
theorem RYs.set : ∀ {ds : List D} {ys : List Y} {d : D} {y : Y} (i : Nat), RY v d y → RYs v ds ys → RYs v (ds.set i d) (ys.set i y)
  | _, _, _, _, _, _, .nil => .nil
  | _, _, _, _, 0, r, .cons _ t => .cons r t
  | _, _, _, _, i + 1, r, .cons q t => .cons q (RYs.set i r t)
theorem RYs.take {ds : List D} {ys : List Y} (n : Nat) (r : RYs v ds ys) : RYs v (ds.take n) (ys.take n) := by
  induction n generalizing ds ys with
  | zero => exact .nil
  | succ n ih => cases r with
    | nil => exact .nil
    | cons a b => exact .cons a (ih b)
theorem RYs.drop {ds : List D} {ys : List Y} (n : Nat) (r : RYs v ds ys) : RYs v (ds.drop n) (ys.drop n) := by
  induction n generalizing ds ys with
  | zero => exact r
  | succ n ih => cases r with
    | nil => exact .nil
    | cons a b => exact ih b
theorem RYs.dropLast {ds : List D} {ys : List Y} (r : RYs v ds ys) : RYs v ds.dropLast ys.dropLast := by
  rw [List.dropLast_eq_take, List.dropLast_eq_take, r.length]; exact r.take _
theorem RYs.reverse : ∀ {ds : List D} {ys : List Y}, RYs v ds ys → RYs v ds.reverse ys.reverse
  | _, _, .nil => .nil
  | _, _, .cons a b => by rw [List.reverse_cons, List.reverse_cons]; exact (RYs.reverse b).append (.cons a .nil)
theorem RYs.ints : ∀ l : List Int, RYs v (l.map .int) (l.map .int)
  | [] => .nil
  | i :: l => .cons (.int i) (RYs.ints l)
end
inductive RC (v : Vw) : O → C → Prop
  | lst {ds : List D} {ys : List Y} : RYs v ds ys → RC v (.lst ds) (.lst ys)
  | ins {c : Nat} {ds : List (Nat × D)} {fs : List (Nat × Y)} : RFs v ds fs → RC v (.ins c ds) (.ins c fs)
theorem RC.mono {v v' : Vw} (l : Vle v v') {x : O} {c : C} : RC v x c → RC v' x c
  | .lst r => .lst (r.mono l)
  | .ins r => .ins (r.mono l)
structure Sat (v : Vw) (o : OC) (h : Hh) : Prop where
  vw : ∀ n x, v n = some x → h[n]? = some x
  oc : ∀ p ∈ o, ∃ x, h[p.1]? = some x ∧ v p.1 = none ∧ RC v x p.2
  nd : o.ks.Nodup
structure Fr (v : Vw) (o : OC) (h : Hh) (v' : Vw) (o' : OC) (h' : Hh) : Prop where
  mono : Vle v v'
  keep : ∀ n x, h[n]? = some x → n ∉ o.ks → h'[n]? = some x ∧ v' n = v n ∧ n ∉ o'.ks
theorem Fr.refl (v : Vw) (o : OC) (h : Hh) : Fr v o h v o h := ⟨fun _ _ z => z, fun _ _ e k => ⟨e, rfl, k⟩⟩
theorem Fr.trans {v v1 v2 : Vw} {o o1 o2 : OC} {h h1 h2 : Hh} (a : Fr v o h v1 o1 h1) (b : Fr v1 o1 h1 v2 o2 h2) : Fr v o h v2 o2 h2 :=
  ⟨fun n x z => b.mono n x (a.mono n x z), fun n x e k => let ⟨p1, p2, p3⟩ := a.keep n x e k; let ⟨q1, q2, q3⟩ := b.keep n x p1 p3; ⟨q1, q2.trans p2, q3⟩⟩
def RXy (v : Vw) (x : Xc) (y : Xy) : Prop := x.cls = y.cls ∧ RFs v x.fs y.fs
theorem RXy.mono {v v' : Vw} (l : Vle v v') {x : Xc} {y : Xy} (r : RXy v x y) : RXy v' x y := ⟨r.1, r.2.mono l⟩
end Mn
namespace Mn
open PySem
abbrev XQ := Xy → OC → Prop
def PR {α β : Type} (RA : Vw → α → β → Prop) (v : Vw) (o : OC) (h : Hh) (r : R α) (Q : β → OC → Prop) (X : XQ) : Prop := match r with
  | .ok a h' => ∃ v' o' b, Fr v o h v' o' h' ∧ Sat v' o' h' ∧ RA v' a b ∧ Q b o'
  | .exc x h' => ∃ v' o' y, Fr v o h v' o' h' ∧ Sat v' o' h' ∧ RXy v' x y ∧ X y o'
  | .stuck => False
structure REy (v : Vw) (e : Ev) (E : Ey) : Prop where
  len : e.length = E.length
  at_ : ∀ (i : Nat) (y : Y), E[i]? = some (some y) → ∃ d, e[i]? = some (some d) ∧ RY v d y
end Mn
namespace Mn
open PySem
theorem REy.mono {v v' : Vw} (l : Vle v v') {e : Ev} {E : Ey} (r : REy v e E) : REy v' e E := ⟨r.len, fun i y h => let ⟨d, a, b⟩ := r.at_ i y h; ⟨d, a, b.mono l⟩⟩
theorem REy.set {v : Vw} {e : Ev} {E : Ey} {d : D} {y : Y} (r : REy v e E) (i : Nat) (q : RY v d y) : REy v (e.set i (some d)) (E.set i (some y)) := by
  refine ⟨by rw [List.length_set, List.length_set]; exact r.len, fun j z h => ?_⟩
  by_cases hij : i = j
  · subst hij
    by_cases hl : i < E.length
    · rw [List.getElem?_set_self hl] at h
      cases h
      exact ⟨d, List.getElem?_set_self (by rw [r.len]; exact hl), q⟩
    · rw [List.getElem?_eq_none (by rw [List.length_set]; omega)] at h
      cases h
  · rw [List.getElem?_set_ne hij] at h ⊢
    exact r.at_ j z h
theorem REy.drop1 {v : Vw} {e : Ev} {E : Ey} (r : REy v e E) (i : Nat) (w : Option D) : REy v (e.set i w) (E.set i none) := by
  refine ⟨by rw [List.length_set, List.length_set]; exact r.len, fun j z h => ?_⟩
  by_cases hij : i = j
  · subst hij
    by_cases hl : i < E.length
    · rw [List.getElem?_set_self hl] at h
      cases h
    · rw [List.getElem?_eq_none (by rw [List.length_set]; omega)] at h
      cases h
  · rw [List.getElem?_set_ne hij] at h ⊢
    exact r.at_ j z h
def wipeY (E : Ey) : List Nat → Ey
  | [] => E
  | v :: vs => (wipeY E vs).set v none
theorem REy.wipe {v : Vw} {e : Ev} {E : Ey} (r : REy v e E) : ∀ vs : List Nat, REy v (wipe e vs) (wipeY E vs)
  | [] => r
  | w :: vs => (REy.wipe r vs).drop1 w none
inductive Fl where
  | nx | bk | ct | rt (y : Y)
abbrev ZQ := Fl → Ey → OC → Prop
abbrev XS := Xy → Ey → OC → Prop
def PSR (v : Vw) (o : OC) (h : Hh) (r : RS) (Z : ZQ) (X : XS) : Prop := match r with
  | .go .nx e h' => ∃ v' o' E, Fr v o h v' o' h' ∧ Sat v' o' h' ∧ REy v' e E ∧ Z .nx E o'
  | .go .bk e h' => ∃ v' o' E, Fr v o h v' o' h' ∧ Sat v' o' h' ∧ REy v' e E ∧ Z .bk E o'
  | .go .ct e h' => ∃ v' o' E, Fr v o h v' o' h' ∧ Sat v' o' h' ∧ REy v' e E ∧ Z .ct E o'
  | .go (.rt d) e h' => ∃ v' o' E y, Fr v o h v' o' h' ∧ Sat v' o' h' ∧ REy v' e E ∧ RY v' d y ∧ Z (.rt y) E o'
  | .exc x e h' => ∃ v' o' E y, Fr v o h v' o' h' ∧ Sat v' o' h' ∧ REy v' e E ∧ RXy v' x y ∧ X y E o'
  | .stuck => False
def VE (a : ED) (E : Ey) (o : OC) (Q : Y → OC → Prop) (X : XQ) : Prop := ∀ v e h, REy v e E → Sat v o h → PR RY v o h (a e h) Q X
def VT (t : TD) (E : Ey) (o : OC) (Q : Bool → OC → Prop) (X : XQ) : Prop := ∀ v e h, REy v e E → Sat v o h → PR (fun _ a b => a = b) v o h (t e h) Q X
def VA (a : AD) (E : Ey) (o : OC) (Q : List Y → OC → Prop) (X : XQ) : Prop := ∀ v e h, REy v e E → Sat v o h → PR RYs v o h (a e h) Q X
def VS (s : SD) (E : Ey) (o : OC) (Z : ZQ) (X : XS) : Prop := ∀ v e h, REy v e E → Sat v o h → PSR v o h (s e h) Z X
def VF (f : FD) (ys : List Y) (o : OC) (Q : Y → OC → Prop) (X : XQ) : Prop := ∀ v ds h, RYs v ds ys → Sat v o h → PR RY v o h (f ds h) Q X
def VO (g : D → Hh → R D) (y : Y) (o : OC) (Q : Y → OC → Prop) (X : XQ) : Prop := ∀ v d h, RY v d y → Sat v o h → PR RY v o h (g d h) Q X
def VO2 (g : D → D → Hh → R D) (x y : Y) (o : OC) (Q : Y → OC → Prop) (X : XQ) : Prop := ∀ v d d' h, RY v d x → RY v d' y → Sat v o h → PR RY v o h (g d d' h) Q X
def VM (g : D → List D → Hh → R D) (x : Y) (ys : List Y) (o : OC) (Q : Y → OC → Prop) (X : XQ) : Prop := ∀ v d ds h, RY v d x → RYs v ds ys → Sat v o h → PR RY v o h (g d ds h) Q X
abbrev noq : XQ := fun _ _ => False
abbrev nos : XS := fun _ _ _ => False
section
variable {α β γ δ : Type} {RA : Vw → α → β → Prop} {RB : Vw → γ → δ → Prop} {v v1 : Vw} {o o1 : OC} {h h1 : Hh} {X X' : XQ}
theorem PR.base {r : R α} {Q : β → OC → Prop} (f : Fr v o h v1 o1 h1) (p : PR RA v1 o1 h1 r Q X) : PR RA v o h r Q X := by
  cases r with
  | ok a h' => obtain ⟨v', o', b, f', s, ra, q⟩ := p; exact ⟨v', o', b, f.trans f', s, ra, q⟩
  | exc x h' => obtain ⟨v', o', b, f', s, ra, q⟩ := p; exact ⟨v', o', b, f.trans f', s, ra, q⟩
  | stuck => exact p
theorem PR.bind {r : R α} {f : α → Hh → R γ} {Q1 : β → OC → Prop} {Q : δ → OC → Prop} (p : PR RA v o h r Q1 X)
    (k : ∀ v1 o1 h1 a b, Fr v o h v1 o1 h1 → Sat v1 o1 h1 → RA v1 a b → Q1 b o1 → PR RB v1 o1 h1 (f a h1) Q X) : PR RB v o h (r.bind f) Q X := by
  cases r with
  | ok a h' => obtain ⟨v', o', b, f', s, ra, q⟩ := p; exact PR.base f' (k v' o' h' a b f' s ra q)
  | exc x h' => exact p
  | stuck => exact p
theorem PR.mono {r : R α} {Q Q' : β → OC → Prop} (p : PR RA v o h r Q X) (f : ∀ b o, Q b o → Q' b o) (g : ∀ y o, X y o → X' y o) : PR RA v o h r Q' X' := by
  cases r with
  | ok a h' => obtain ⟨v', o', b, f', s, ra, q⟩ := p; exact ⟨v', o', b, f', s, ra, f _ _ q⟩
  | exc x h' => obtain ⟨v', o', b, f', s, ra, q⟩ := p; exact ⟨v', o', b, f', s, ra, g _ _ q⟩
  | stuck => exact p
theorem PR.ok {a : α} {b : β} {Q : β → OC → Prop} (s : Sat v o h) (ra : RA v a b) (q : Q b o) : PR RA v o h (.ok a h) Q X := ⟨v, o, b, Fr.refl _ _ _, s, ra, q⟩
end
section
variable {E : Ey} {o : OC} {Q Q' : Y → OC → Prop} {Qb : Bool → OC → Prop} {Ql : List Y → OC → Prop} {X X' : XQ} {a b c : ED} {t u : TD} {as : AD} {f : FD}
theorem VE.mono (p : VE a E o Q X) (g : ∀ y o, Q y o → Q' y o) (k : ∀ y o, X y o → X' y o) : VE a E o Q' X' := fun v e h r s => (p v e h r s).mono g k
theorem VF.mono {ys : List Y} (p : VF f ys o Q X) (g : ∀ y o, Q y o → Q' y o) (k : ∀ y o, X y o → X' y o) : VF f ys o Q' X' := fun v e h r s => (p v e h r s).mono g k
theorem vE_c {d : D} {y : Y} (r : ∀ v, RY v d y) (q : Q y o) : VE (dC d) E o Q X := fun v e h re s => PR.ok s (r v) q
theorem vE_v {i : Nat} {y : Y} (hi : E[i]? = some (some y)) (q : Q y o) : VE (dV i) E o Q X := fun v e h re s => by
  obtain ⟨d, h1, h2⟩ := re.at_ i y hi
  unfold dV
  rw [h1]
  exact PR.ok s h2 q
theorem vE_B {op : Operator} (p : VE a E o (fun x o1 => VE b E o1 (fun y o2 => VO2 (bop op) x y o2 Q X) X) X) : VE (dB op a b) E o Q X := fun v e h re s =>
  (p v e h re s).bind fun v1 o1 h1 d y f1 s1 r1 p1 => (p1 v1 e h1 (re.mono f1.mono) s1).bind fun v2 o2 h2 d2 y2 f2 s2 r2 p2 => p2 v2 d d2 h2 (r1.mono f2.mono) r2 s2
theorem vE_Cmp {op : CmpOp} (p : VE a E o (fun x o1 => VE b E o1 (fun y o2 => VO2 (bcmp op) x y o2 Q X) X) X) : VE (dCmp op a b) E o Q X := fun v e h re s =>
  (p v e h re s).bind fun v1 o1 h1 d y f1 s1 r1 p1 => (p1 v1 e h1 (re.mono f1.mono) s1).bind fun v2 o2 h2 d2 y2 f2 s2 r2 p2 => p2 v2 d d2 h2 (r1.mono f2.mono) r2 s2
theorem vE_Ix (p : VE a E o (fun x o1 => VE b E o1 (fun y o2 => VO2 ixD x y o2 Q X) X) X) : VE (dIx a b) E o Q X := fun v e h re s =>
  (p v e h re s).bind fun v1 o1 h1 d y f1 s1 r1 p1 => (p1 v1 e h1 (re.mono f1.mono) s1).bind fun v2 o2 h2 d2 y2 f2 s2 r2 p2 => p2 v2 d d2 h2 (r1.mono f2.mono) r2 s2
theorem vE_U {op : UnaryOp} (p : VE a E o (fun x o1 => VO (uop op) x o1 Q X) X) : VE (dU op a) E o Q X := fun v e h re s =>
  (p v e h re s).bind fun v1 o1 h1 d y f1 s1 r1 p1 => p1 v1 d h1 r1 s1
theorem vA_N (q : Ql [] o) : VA aN E o Ql X := fun v e h re s => PR.ok s .nil q
theorem vA_C (p : VE a E o (fun y o1 => VA as E o1 (fun ys o2 => Ql (y :: ys) o2) X) X) : VA (aC a as) E o Ql X := fun v e h re s =>
  (p v e h re s).bind fun v1 o1 h1 d y f1 s1 r1 p1 => (p1 v1 e h1 (re.mono f1.mono) s1).bind fun v2 o2 h2 d2 y2 f2 s2 r2 p2 => PR.ok s2 (.cons (r1.mono f2.mono) r2) p2
theorem vE_Call0 (p : VA as E o (fun ys o1 => VF f ys o1 Q X) X) : VE (dCall f as []) E o Q X := fun v e h re s =>
  (p v e h re s).bind fun v1 o1 h1 d y f1 s1 r1 p1 => by rw [List.append_nil]; exact p1 v1 d h1 r1 s1
theorem vE_Tup (p : VA as E o (fun ys o1 => ys.length ≤ szl ∧ Q (.tup ys) o1) X) : VE (dTup as) E o Q X := fun v e h re s =>
  (p v e h re s).bind fun v1 o1 h1 d y f1 s1 r1 p1 => by
    rw [if_pos (by rw [r1.length]; exact p1.1)]
    exact PR.ok s1 (.tup r1) p1.2
def TB (y : Y) (o : OC) (Q : Bool → OC → Prop) : Prop := ∃ k, y = .bl k ∧ Q k o
def cnd (k : Bool) (A B : Prop) : Prop := if k = true then A else B
theorem cnd_n {A B : Prop} {k : Bool} (q : cnd k B A) : cnd (!k) A B := by cases k <;> exact q
theorem cnd_d {A B : Prop} {p : Prop} [Decidable p] (q1 : p → A) (q2 : ¬p → B) : cnd (decide p) A B := by
  by_cases z : p
  · rw [decide_eq_true z]; exact q1 z
  · rw [decide_eq_false z]; exact q2 z
theorem PR.blOf {γ δ : Type} {RB : Vw → γ → δ → Prop} {v : Vw} {h : Hh} {d : D} {y : Y} {f : Bool → Hh → R γ} {Q1 : δ → OC → Prop} {k : Bool} (r : RY v d y) (e : y = .bl k) (p : PR RB v o h (f k h) Q1 X) : PR RB v o h (blOf d h f) Q1 X := by
  subst e; cases r; exact p
theorem vT_B (p : VE a E o (fun x o1 => TB x o1 Qb) X) : VT (tB a) E o Qb X := fun v e h re s =>
  (p v e h re s).bind fun v1 o1 h1 d y f1 s1 r1 ⟨k, ey, p1⟩ => PR.blOf r1 ey (PR.ok s1 rfl p1)
theorem vT_Not (p : VT t E o (fun k o1 => Qb (!k) o1) X) : VT (tNot t) E o Qb X := fun v e h re s =>
  (p v e h re s).bind fun v1 o1 h1 d y f1 s1 r1 p1 => PR.ok s1 (by rw [r1]) p1
theorem vT_And (p : VT t E o (fun k o1 => cnd k (VT u E o1 Qb X) (Qb false o1)) X) : VT (tAnd t u) E o Qb X := fun v e h re s =>
  (p v e h re s).bind fun v1 o1 h1 d y f1 s1 r1 p1 => by
    subst r1
    cases d
    · exact PR.ok s1 rfl p1
    · exact p1 v1 e h1 (re.mono f1.mono) s1
theorem vT_Or (p : VT t E o (fun k o1 => cnd k (Qb true o1) (VT u E o1 Qb X)) X) : VT (tOr t u) E o Qb X := fun v e h re s =>
  (p v e h re s).bind fun v1 o1 h1 d y f1 s1 r1 p1 => by
    subst r1
    cases d
    · exact p1 v1 e h1 (re.mono f1.mono) s1
    · exact PR.ok s1 rfl p1
theorem vT_Y (q : Qb true o) : VT tY E o Qb X := fun v e h re s => PR.ok s rfl q
inductive At : OC → Nat → C → (C → OC) → Prop
  | here {n : Nat} {c : C} {o : OC} : At ((n, c) :: o) n c (fun c' => (n, c') :: o)
  | there {o : OC} {n : Nat} {c : C} {k : C → OC} {p : Nat × C} : At o n c k → At (p :: o) n c (fun c' => p :: k c')
theorem At.mem {o : OC} {n : Nat} {c : C} {k : C → OC} (a : At o n c k) : (n, c) ∈ o := by
  induction a with
  | here => exact .head _
  | there _ ih => exact .tail _ ih
theorem At.ks {o : OC} {n : Nat} {c : C} {k : C → OC} (a : At o n c k) (c' : C) : (k c').ks = o.ks := by
  induction a with
  | here => rfl
  | there _ ih => exact congrArg (_ :: ·) ih
theorem At.mem' {o : OC} {n : Nat} {c c' : C} {k : C → OC} (a : At o n c k) (nd : o.ks.Nodup) {q : Nat × C} (h : q ∈ k c') : q = (n, c') ∨ (q ∈ o ∧ q.1 ≠ n) := by
  induction a with
  | @here n c o =>
    rcases List.mem_cons.mp h with h | h
    · exact .inl h
    · refine .inr ⟨.tail _ h, fun e => ?_⟩
      have := (List.nodup_cons.mp nd).1
      exact this (e ▸ List.mem_map_of_mem (f := (·.1)) h)
  | @there o n c k p a ih =>
    have nd' := List.nodup_cons.mp nd
    rcases List.mem_cons.mp h with h | h
    · subst h
      refine .inr ⟨.head _, fun e => nd'.1 ?_⟩
      show q.1 ∈ _
      rw [e]
      exact List.mem_map_of_mem (f := (·.1)) a.mem
    · rcases ih nd'.2 h with h | ⟨h1, h2⟩
      · exact .inl h
      · exact .inr ⟨.tail _ h1, h2⟩
inductive Ls (o : OC) : Y → List Y → Prop
  | lst (ys : List Y) : Ls o (.lst ys) ys
  | frz (ys : List Y) : Ls o (.frz ys) ys
  | own {n : Nat} {ys : List Y} {k : C → OC} : At o n (.lst ys) k → Ls o (.own n) ys
theorem Ls.get {o : OC} {y : Y} {ys : List Y} (l : Ls o y ys) {v : Vw} {h : Hh} (s : Sat v o h) {d : D} (r : RY v d y) : ∃ n ds, d = .ref n ∧ lstAt h n = some ds ∧ RYs v ds ys := by
  cases l with
  | lst ys =>
    cases r with
    | lst e q => exact ⟨_, _, rfl, by unfold lstAt; rw [s.vw _ _ e], q⟩
  | frz ys =>
    cases r with
    | frz e q => exact ⟨_, _, rfl, by unfold lstAt; rw [s.vw _ _ e], q⟩
  | own a =>
    cases r with
    | own =>
      obtain ⟨x, e, _, rc⟩ := s.oc _ a.mem
      cases rc with
      | lst q => exact ⟨_, _, rfl, by unfold lstAt; rw [e], q⟩
def TR (y : Y) (o : OC) (Q : Bool → OC → Prop) : Prop := ∀ v d h, RY v d y → Sat v o h → ∃ k, truth d h = some k ∧ Q k o
theorem tr_b {k : Bool} (q : Qb k o) : TR (.bl k) o Qb := fun v d h r s => by cases r; exact ⟨_, rfl, q⟩
theorem vT_E (p : VE a E o (fun x o1 => TR x o1 Qb) X) : VT (tE a) E o Qb X := fun v e h re s =>
  (p v e h re s).bind fun v1 o1 h1 d y f1 s1 r1 p1 => by
    obtain ⟨k, ek, q⟩ := p1 v1 d h1 r1 s1
    rw [ek]
    exact PR.ok s1 rfl q
theorem vE_AndT (p : VE a E o (fun x o1 => TR x o1 fun k o1 => cnd k (VE b E o1 Q X) (Q x o1)) X) : VE (dAndT a b) E o Q X := fun v e h re s =>
  (p v e h re s).bind fun v1 o1 h1 d y f1 s1 r1 p1 => by
    obtain ⟨k, ek, q⟩ := p1 v1 d h1 r1 s1
    rw [ek]
    cases k
    · exact PR.ok s1 r1 q
    · exact q v1 e h1 (re.mono f1.mono) s1
theorem vE_NotT (p : VE a E o (fun x o1 => TR x o1 fun k o1 => Q (.bl (!k)) o1) X) : VE (dNotT a) E o Q X := fun v e h re s =>
  (p v e h re s).bind fun v1 o1 h1 d y f1 s1 r1 p1 => by
    obtain ⟨k, ek, q⟩ := p1 v1 d h1 r1 s1
    rw [ek]
    exact PR.ok s1 (.bl _) q
theorem Sat.new {v : Vw} {o : OC} {h : Hh} {x : O} (s : Sat v o h) : v h.length = none ∧ h.length ∉ o.ks := by
  refine ⟨?_, fun m => ?_⟩
  · cases e : v h.length with
    | none => rfl
    | some x => have := s.vw _ _ e; simp at this
  · obtain ⟨p, hp, e⟩ := List.mem_map.mp m
    obtain ⟨x, h1, _⟩ := s.oc p hp
    rw [e] at h1
    simp at h1
theorem app_old {h : Hh} {x y : O} {n : Nat} (e : h[n]? = some y) : (h ++ [x])[n]? = some y := by
  rw [List.getElem?_append_left (List.getElem?_eq_some_iff.mp e).1]; exact e
theorem app_new {h : Hh} {x : O} : (h ++ [x])[h.length]? = some x := by simp
theorem Sat.fz {v : Vw} {o : OC} {h : Hh} {x : O} (s : Sat v o h) : ∃ v', Fr v o h v' o (h ++ [x]) ∧ Sat v' o (h ++ [x]) ∧ v' h.length = some x := by
  obtain ⟨n1, n2⟩ := s.new (x := x)
  have vl : Vle v (fun n => if n = h.length then some x else v n) := fun n y e => by
    by_cases z : n = h.length
    · subst z; rw [n1] at e; cases e
    · simp only [if_neg z]; exact e
  refine ⟨fun n => if n = h.length then some x else v n, ⟨vl, fun n y e k => ⟨app_old e, if_neg (fun z => ?_), k⟩⟩, ⟨fun n y e => ?_, fun p hp => ?_, s.nd⟩, if_pos rfl⟩
  · subst z; simp at e
  · by_cases z : n = h.length
    · subst z; simp only [if_pos] at e; cases e; exact app_new
    · simp only [if_neg z] at e; exact app_old (s.vw _ _ e)
  · obtain ⟨y, h1, h2, h3⟩ := s.oc p hp
    refine ⟨y, app_old h1, ?_, h3.mono vl⟩
    have : p.1 ≠ h.length := fun z => by rw [z] at h1; simp at h1
    simp only [if_neg this]; exact h2
theorem Sat.nw {v : Vw} {o : OC} {h : Hh} {x : O} {c : C} (s : Sat v o h) (r : RC v x c) : Fr v o h v ((h.length, c) :: o) (h ++ [x]) ∧ Sat v ((h.length, c) :: o) (h ++ [x]) := by
  obtain ⟨n1, n2⟩ := s.new (x := x)
  refine ⟨⟨fun _ _ e => e, fun n y e k => ⟨app_old e, rfl, fun m => ?_⟩⟩, ⟨fun n y e => app_old (s.vw _ _ e), fun p hp => ?_, List.nodup_cons.mpr ⟨n2, s.nd⟩⟩⟩
  · rcases List.mem_cons.mp m with m | m
    · subst m; simp at e
    · exact k m
  · rcases List.mem_cons.mp hp with hp | hp
    · subst hp; exact ⟨x, app_new, n1, r⟩
    · obtain ⟨y, h1, h2, h3⟩ := s.oc p hp
      exact ⟨y, app_old h1, h2, h3⟩
def NL (own : Bool) (ys : List Y) (o : OC) (Q : Y → OC → Prop) : Prop := if own = true then ∀ n, n ∉ o.ks → Q (.own n) ((n, .lst ys) :: o) else Q (.lst ys) o
theorem NL.fz {ys : List Y} (q : Q (.lst ys) o) : NL false ys o Q := q
theorem NL.ow {ys : List Y} (q : ∀ n, n ∉ o.ks → Q (.own n) ((n, .lst ys) :: o)) : NL true ys o Q := q
theorem NL.out {own : Bool} {ys : List Y} (q : NL own ys o Q) {v : Vw} {h : Hh} {ds : List D} (s : Sat v o h) (r : RYs v ds ys) : PR RY v o h (.ok (.ref h.length) (h ++ [.lst ds])) Q X := by
  cases own with
  | false =>
    obtain ⟨v', f, s', e⟩ := s.fz (x := .lst ds)
    exact ⟨v', o, .lst ys, f, s', .lst e (r.mono f.mono), q⟩
  | true =>
    obtain ⟨f, s'⟩ := s.nw (RC.lst r)
    exact ⟨v, _, .own h.length, f, s', .own, q _ (s.new (x := .lst ds)).2⟩
theorem vE_Lst (own : Bool) (p : VA as E o (fun ys o1 => ys.length ≤ szl ∧ NL own ys o1 Q) X) : VE (dLst as) E o Q X := fun v e h re s =>
  (p v e h re s).bind fun v1 o1 h1 d y f1 s1 r1 p1 => by
    rw [if_pos (by rw [r1.length]; exact p1.1)]
    exact p1.2.out s1 r1
inductive Rm : OC → Nat → C → OC → Prop
  | here {n : Nat} {c : C} {o : OC} : Rm ((n, c) :: o) n c o
  | there {o o' : OC} {n : Nat} {c : C} {p : Nat × C} : Rm o n c o' → Rm (p :: o) n c (p :: o')
theorem Rm.mem {o o' : OC} {n : Nat} {c : C} (a : Rm o n c o') : (n, c) ∈ o := by
  induction a with
  | here => exact .head _
  | there _ ih => exact .tail _ ih
theorem Rm.sub {o o' : OC} {n : Nat} {c : C} (a : Rm o n c o') : o'.Sublist o := by
  induction a with
  | here => exact List.sublist_cons_self _ _
  | there _ ih => exact ih.cons₂ _
theorem Rm.ne {o o' : OC} {n : Nat} {c : C} (a : Rm o n c o') (nd : o.ks.Nodup) : n ∉ o'.ks := by
  induction a with
  | here => exact (List.nodup_cons.mp nd).1
  | @there o o' n c p a ih =>
    have nd' := List.nodup_cons.mp nd
    intro m
    rcases List.mem_cons.mp m with m | m
    · subst m; exact nd'.1 (List.mem_map_of_mem (f := (·.1)) a.mem)
    · exact ih nd'.2 m
theorem Sat.freeze {v : Vw} {o o' : OC} {h : Hh} {n : Nat} {ys : List Y} (s : Sat v o h) (a : Rm o n (.lst ys) o') : ∃ v', Fr v o h v' o' h ∧ Sat v' o' h ∧ RY v' (.ref n) (.lst ys) := by
  obtain ⟨x, h1, h2, h3⟩ := s.oc _ a.mem
  cases h3 with
  | @lst ds _ r =>
    have vl : Vle v (fun m => if m = n then some (.lst ds) else v m) := fun m y e => by
      by_cases z : m = n
      · subst z; rw [h2] at e; cases e
      · simp only [if_neg z]; exact e
    have hks : ∀ m, m ∈ o'.ks → m ∈ o.ks := fun m hm => (a.sub.map _).subset hm
    refine ⟨fun m => if m = n then some (.lst ds) else v m, ⟨vl, fun m y e k' => ⟨e, if_neg (fun z => k' ?_), fun z => k' (hks _ z)⟩⟩, ⟨fun m y e => ?_, fun p hp => ?_, ?_⟩, .lst (if_pos rfl) (r.mono vl)⟩
    · subst z; exact List.mem_map_of_mem (f := (·.1)) a.mem
    · by_cases z : m = n
      · subst z; simp only [if_pos] at e; cases e; exact h1
      · simp only [if_neg z] at e; exact s.vw _ _ e
    · obtain ⟨y, g1, g2, g3⟩ := s.oc p (a.sub.subset hp)
      have hp2 : p.1 ≠ n := fun z => a.ne s.nd (z ▸ List.mem_map_of_mem (f := (·.1)) hp)
      exact ⟨y, g1, by simp only [if_neg hp2]; exact g2, g3.mono vl⟩
    · exact s.nd.sublist (a.sub.map _)
end
end Mn
namespace Mn
open PySem
mutual
def pdY : Y → PyData
  | .non => .none
  | .bl b => .bool b
  | .int i => .int i
  | .str s => .str s
  | .tup ys => .tuple (pdYs ys)
  | .lst ys => .list (pdYs ys)
  | .frz ys => .list (pdYs ys)
  | .ins _ _ => .none
  | .own _ => .none
  | .rg _ _ => .none
def pdYs : List Y → List PyData
  | [] => []
  | y :: ys => pdY y :: pdYs ys
end
def okY : Nat → Y → Bool
  | _, .non | _, .bl _ | _, .int _ => true
  | _, .str s => PyData.strOk s
  | k + 1, .tup ys | k + 1, .lst ys | k + 1, .frz ys => ys.all (okY k)
  | _, _ => false
def eqY (x y : Y) : Bool := PyData.eqv (pdY x) (pdY y)
theorem okY_pd {v : Vw} {o : OC} {h : Hh} (s : Sat v o h) : ∀ (k : Nat) (d : D) (y : Y), RY v d y → okY k y = true → toPD h k d = some (pdY y)
  | 0, d, y, r, e => by
    cases r <;> first | rfl | (simp [okY] at e)
  | k + 1, d, y, r, e => by
    have all : ∀ (ds : List D) (ys : List Y), RYs v ds ys → ys.all (okY k) = true → allS (toPD h k) ds = some (pdYs ys) := by
      intro ds
      induction ds with
      | nil => intro ys r e; cases r; rfl
      | cons d ds ih =>
        intro ys r e
        cases r with
        | cons r1 r2 =>
          rw [List.all_cons, Bool.and_eq_true] at e
          unfold allS
          rw [okY_pd s k _ _ r1 e.1, ih _ r2 e.2]
          rfl
    cases r with
    | non => rfl
    | bl b => rfl
    | int i => rfl
    | str z => rfl
    | tup q =>
      simp only [okY] at e
      simp only [toPD, all _ _ q e, pdY, Option.map_some]
    | lst f q =>
      simp only [okY] at e
      simp only [toPD, lstAt, s.vw _ _ f, all _ _ q e, pdY, Option.map_some]
    | frz f q =>
      simp only [okY] at e
      simp only [toPD, lstAt, s.vw _ _ f, all _ _ q e, pdY, Option.map_some]
    | ins f q => simp [okY] at e
    | own => simp [okY] at e
    | rg => simp [okY] at e
theorem okY_lay : ∀ (k : Nat) (y : Y), okY k y = true → (pdY y).canLay0 = true ∧ (pdY y).depth ≤ k := by
  intro k
  induction k with
  | zero =>
    intro y e
    cases y <;> first | (simp [okY] at e; done) | exact ⟨rfl, Nat.le_refl _⟩ | skip
    rename_i z
    exact ⟨by simpa [okY, pdY, PyData.canLay0] using e, Nat.le_refl _⟩
  | succ k ih =>
    have all : ∀ ys : List Y, ys.all (okY k) = true → PyData.canLayAll0 (pdYs ys) = true ∧ PyData.depthAll (pdYs ys) ≤ k := by
      intro ys
      induction ys with
      | nil => intro _; exact ⟨rfl, Nat.zero_le _⟩
      | cons y ys ih2 =>
        intro e
        rw [List.all_cons, Bool.and_eq_true] at e
        have a := ih y e.1
        have b := ih2 e.2
        refine ⟨by simp only [pdYs, PyData.canLayAll0, a.1, b.1, Bool.and_self], ?_⟩
        simp only [pdYs, PyData.depthAll]
        omega
    intro y e
    cases y with
    | non => exact ⟨rfl, Nat.zero_le _⟩
    | bl b => exact ⟨rfl, Nat.zero_le _⟩
    | int b => exact ⟨rfl, Nat.zero_le _⟩
    | str z => exact ⟨by simpa [okY, pdY, PyData.canLay0] using e, Nat.zero_le _⟩
    | tup ys =>
      have a := all ys (by simpa only [okY] using e)
      exact ⟨by simp only [pdY, PyData.canLay0, a.1], by simp only [pdY, PyData.depth]; omega⟩
    | lst ys =>
      have a := all ys (by simpa only [okY] using e)
      exact ⟨by simp only [pdY, PyData.canLay0, a.1], by simp only [pdY, PyData.depth]; omega⟩
    | frz ys =>
      have a := all ys (by simpa only [okY] using e)
      exact ⟨by simp only [pdY, PyData.canLay0, a.1], by simp only [pdY, PyData.depth]; omega⟩
    | ins c fs => simp [okY] at e
    | own n => simp [okY] at e
    | rg => simp [okY] at e
theorem okY_shaped {y : Y} (e : okY 12 y = true) : SeqAt.shaped (pdY y) = true := by
  have a := okY_lay 12 y e
  unfold SeqAt.shaped
  rw [a.1, Bool.true_and]
  exact decide_eq_true (by omega)
theorem eqD_Y {v : Vw} {o : OC} {h : Hh} (s : Sat v o h) {d d' : D} {x y : Y} (r : RY v d x) (r' : RY v d' y) (e : okY 12 x = true) (e' : okY 12 y = true) : eqD h d d' = some (eqY x y) := by
  have a := okY_pd s 12 _ _ r e
  have b := okY_pd s 12 _ _ r' e'
  unfold eqD
  split
  · cases r; cases r'; simp only [eqY, pdY, PyData.eqv, Bool.beq_eq_decide_eq]
  · cases r; cases r'; simp only [eqY, pdY, PyData.eqv, Bool.beq_eq_decide_eq]
  · cases r; cases r'; simp only [eqY, pdY, PyData.eqv, Bool.beq_eq_decide_eq]
  · rw [a, b]
    simp only [okY_shaped e, okY_shaped e', and_self, if_true]
    rfl
section
variable {E : Ey} {o : OC} {Q Q' : Y → OC → Prop} {X X' : XQ} {i j : Int} {x y : Y} {ys zs : List Y} {s s' : Str}
theorem b_add (q : Q (.int (i + j)) o) : VO2 (bop .Add) (.int i) (.int j) o Q X := fun v d d' h r r' s => by cases r; cases r'; exact PR.ok s (.int _) q
theorem b_sub (q : Q (.int (i - j)) o) : VO2 (bop .Sub) (.int i) (.int j) o Q X := fun v d d' h r r' s => by cases r; cases r'; exact PR.ok s (.int _) q
theorem b_mul (c : cMul i j) (q : Q (.int (i * j)) o) : VO2 (bop .Mult) (.int i) (.int j) o Q X := fun v d d' h r r' s => by cases r; cases r'; show PR RY v o h (ite _ _ _) Q X; rw [if_pos c]; exact PR.ok s (.int _) q
theorem b_div (c : cDiv j) (q : Q (.int (i.fdiv j)) o) : VO2 (bop .FloorDiv) (.int i) (.int j) o Q X := fun v d d' h r r' s => by cases r; cases r'; show PR RY v o h (ite _ _ _) Q X; rw [if_pos c]; exact PR.ok s (.int _) q
theorem b_mod (c : j ≠ 0) (q : Q (.int (i.fmod j)) o) : VO2 (bop .Mod) (.int i) (.int j) o Q X := fun v d d' h r r' s => by cases r; cases r'; show PR RY v o h (ite _ _ _) Q X; rw [if_pos c]; exact PR.ok s (.int _) q
theorem b_pow (c : cPow i j) (q : Q (.int (i ^ j.toNat)) o) : VO2 (bop .Pow) (.int i) (.int j) o Q X := fun v d d' h r r' s => by cases r; cases r'; show PR RY v o h (ite _ _ _) Q X; rw [if_pos c]; exact PR.ok s (.int _) q
theorem b_addS (c : s.length + s'.length ≤ szl) (q : Q (.str (s ++ s')) o) : VO2 (bop .Add) (.str s) (.str s') o Q X := fun v d d' h r r' sa => by cases r; cases r'; show PR RY v o h (ite _ _ _) Q X; rw [if_pos c]; exact PR.ok sa (.str _) q
theorem b_addT (c : ys ≠ []) (c' : ys.length + zs.length ≤ szl) (q : Q (.tup (ys ++ zs)) o) : VO2 (bop .Add) (.tup ys) (.tup zs) o Q X := fun v d d' h r r' s => by
  cases r with
  | tup r => cases r' with
    | tup r' =>
      show PR RY v o h (ite _ _ _) Q X
      rw [if_pos (by rw [r.length, r'.length]; exact c')]
      exact PR.ok s (.tup (r.append r')) q
theorem b_addT0 (c' : ys.length + zs.length ≤ szl) (q : Q (.tup (ys ++ zs)) o) : VO2 (bop .Add) (.tup ys) (.tup zs) o Q X := fun v d d' h r r' s => by
  cases r with
  | tup r => cases r' with
    | tup r' =>
      show PR RY v o h (ite _ _ _) Q X
      rw [if_pos (by rw [r.length, r'.length]; exact c')]
      exact PR.ok s (.tup (r.append r')) q
theorem u_neg (q : Q (.int (-i)) o) : VO (uop .USub) (.int i) o Q X := fun v d h r s => by cases r; exact PR.ok s (.int _) q
theorem c_lt (q : Q (.bl (decide (i < j))) o) : VO2 (bcmp .Lt) (.int i) (.int j) o Q X := fun v d d' h r r' s => by cases r; cases r'; exact PR.ok s (.bl _) q
theorem c_le (q : Q (.bl (decide (i ≤ j))) o) : VO2 (bcmp .LtE) (.int i) (.int j) o Q X := fun v d d' h r r' s => by cases r; cases r'; exact PR.ok s (.bl _) q
theorem c_gt (q : Q (.bl (decide (j < i))) o) : VO2 (bcmp .Gt) (.int i) (.int j) o Q X := fun v d d' h r r' s => by cases r; cases r'; exact PR.ok s (.bl _) q
theorem c_ge (q : Q (.bl (decide (j ≤ i))) o) : VO2 (bcmp .GtE) (.int i) (.int j) o Q X := fun v d d' h r r' s => by cases r; cases r'; exact PR.ok s (.bl _) q
theorem c_eqI (q : Q (.bl (decide (i = j))) o) : VO2 (bcmp .Eq) (.int i) (.int j) o Q X := fun v d d' h r r' s => by cases r; cases r'; exact PR.ok s (.bl _) q
theorem c_neI (q : Q (.bl (!decide (i = j))) o) : VO2 (bcmp .NotEq) (.int i) (.int j) o Q X := fun v d d' h r r' s => by cases r; cases r'; exact PR.ok s (.bl _) q
theorem c_eqS (q : Q (.bl (decide (s = s'))) o) : VO2 (bcmp .Eq) (.str s) (.str s') o Q X := fun v d d' h r r' s => by cases r; cases r'; exact PR.ok s (.bl _) q
theorem c_eqB {a b : Bool} (q : Q (.bl (decide (a = b))) o) : VO2 (bcmp .Eq) (.bl a) (.bl b) o Q X := fun v d d' h r r' s => by cases r; cases r'; exact PR.ok s (.bl _) q
theorem c_neB {a b : Bool} (q : Q (.bl (!decide (a = b))) o) : VO2 (bcmp .NotEq) (.bl a) (.bl b) o Q X := fun v d d' h r r' s => by cases r; cases r'; exact PR.ok s (.bl _) q
theorem c_eq (e : okY 12 x = true) (e' : okY 12 y = true) (q : Q (.bl (eqY x y)) o) : VO2 (bcmp .Eq) x y o Q X := fun v d d' h r r' s => by
  show PR RY v o h (ofB (eqD h d d') id h) Q X
  rw [eqD_Y s r r' e e']
  exact PR.ok s (.bl _) q
theorem c_inS (q : Q (.bl (!(Builtin.Str.occurrences s' s 0 s'.length 1).isEmpty)) o) : VO2 (bcmp .In) (.str s) (.str s') o Q X := fun v d d' h r r' s => by cases r; cases r'; exact PR.ok s (.bl _) q
def flatY : Y → Bool
  | .non | .bl _ | .int _ | .str _ => true
  | _ => false
def eqFY : Y → Y → Bool
  | .non, .non => true
  | .bl a, .bl b => a == b
  | .bl a, .int j => (if a then 1 else 0) == j
  | .int i, .bl b => i == (if b then 1 else 0)
  | .int i, .int j => i == j
  | .str a, .str b => a == b
  | _, _ => false
theorem flat_Y {v : Vw} {d : D} (r : RY v d x) (f : flatY x = true) : flatD d = true := by cases r <;> first | rfl | cases f
theorem eqF_Y {v : Vw} {d d' : D} (r : RY v d x) (r' : RY v d' y) (f : flatY x = true) (f' : flatY y = true) : eqF d d' = eqFY x y := by
  cases r <;> first | (cases f; done) | (cases r' <;> first | rfl | cases f')
theorem inD_Y {v : Vw} {h : Hh} {d : D} {ds : List D} (r : RY v d x) (rs : RYs v ds ys) (f : flatY x = true) (f' : ys.all flatY = true) : inD h d ds = some (ys.any fun y => eqFY y x) := by
  have all : ∀ (ds : List D) (ys : List Y), RYs v ds ys → ys.all flatY = true → ds.all flatD = true ∧ (ds.any fun y => eqF y d) = ys.any fun y => eqFY y x := by
    intro ds
    induction ds with
    | nil => intro ys r _; cases r; exact ⟨rfl, rfl⟩
    | cons d1 ds ih =>
      intro ys rs f'
      cases rs with
      | cons r1 r2 =>
        rw [List.all_cons, Bool.and_eq_true] at f'
        obtain ⟨h1, h2⟩ := ih _ r2 f'.2
        exact ⟨by rw [List.all_cons, flat_Y r1 f'.1, h1]; rfl, by rw [List.any_cons, List.any_cons, eqF_Y r1 r f'.1 f, h2]⟩
  obtain ⟨h1, h2⟩ := all ds ys rs f'
  unfold inD
  rw [if_pos ⟨flat_Y r f, h1⟩, h2]
theorem inA_flat {h : Hh} {x c : D} {ys : List D} {b : Bool} (e : inD h x ys = some b) : inA h x c ys = some b := by
  unfold inA
  rw [e]
theorem c_inL {l : Y} (hl : Ls o l ys) (f : flatY x = true) (f' : ys.all flatY = true) (q : Q (.bl (ys.any fun y => eqFY y x)) o) : VO2 (bcmp .In) x l o Q X := fun v d d' h r r' s => by
  obtain ⟨n, ds, rfl, e, rs⟩ := hl.get s r'
  have e' := inD_Y (h := h) r rs f f'
  cases r <;> first | (cases f; done) | (
    show PR RY v o h (match lstAt h n with | some ys => ofB (inA h _ (.ref n) ys) id h | none => .stuck) Q X
    rw [e]; simp only; rw [inA_flat e']; exact PR.ok s (.bl _) q)
theorem c_inT (f : flatY x = true) (f' : ys.all flatY = true) (q : Q (.bl (ys.any fun y => eqFY y x)) o) : VO2 (bcmp .In) x (.tup ys) o Q X := fun v d d' h r r' s => by
  cases r' with
  | tup rs =>
    have e' := inD_Y (h := h) r rs f f'
    cases r <;> first | (cases f; done) | (
      show PR RY v o h (ofB (inA h _ (.tup _) _) id h) Q X
      rw [inA_flat e']; exact PR.ok s (.bl _) q)
theorem c_ninT (f : flatY x = true) (f' : ys.all flatY = true) (q : Q (.bl (!(ys.any fun y => eqFY y x))) o) : VO2 (bcmp .NotIn) x (.tup ys) o Q X := fun v d d' h r r' s => by
  cases r' with
  | tup rs =>
    have e' := inD_Y (h := h) r rs f f'
    cases r <;> first | (cases f; done) | (
      show PR RY v o h (ofB (inA h _ (.tup _) _) not h) Q X
      rw [inA_flat e']; exact PR.ok s (.bl _) q)
theorem vE_Ch {op op' : CmpOp} {a b c : ED} (p : VE a E o (fun x o1 => VE b E o1 (fun y o2 => VO2 (bcmp op) x y o2 (fun z o3 => TB z o3 fun k o3 => cnd k (VE c E o3 (fun w o4 => VO2 (bcmp op') y w o4 Q X) X) (Q (.bl false) o3)) X) X) X) : VE (dCh op op' a b c) E o Q X := fun v e h re s =>
  (p v e h re s).bind fun v1 o1 h1 d y f1 s1 r1 p1 => (p1 v1 e h1 (re.mono f1.mono) s1).bind fun v2 o2 h2 d2 y2 f2 s2 r2 p2 => (p2 v2 d d2 h2 (r1.mono f2.mono) r2 s2).bind fun v3 o3 h3 d3 y3 f3 s3 r3 ⟨k, ek, p3⟩ => PR.blOf r3 ek (by
    cases k
    · exact PR.ok s3 (.bl _) p3
    · exact (p3 v3 e h3 (((re.mono f1.mono).mono f2.mono).mono f3.mono) s3).bind fun v4 o4 h4 d4 y4 f4 s4 r4 p4 => p4 v4 d2 d4 h4 ((r2.mono f3.mono).mono f4.mono) r4 s4)
theorem atI_Y {v : Vw} {ds : List D} (r : RYs v ds ys) (e : L2.atI ys i = some y) : ∃ d, L2.atI ds i = some d ∧ RY v d y := by
  unfold L2.atI at e ⊢
  rw [r.length]
  cases q : L2.ixN ys.length i with
  | none => rw [q] at e; cases e
  | some j =>
    rw [q] at e
    exact r.get e
theorem x_tup (e : L2.atI ys i = some y) (q : Q y o) : VO2 ixD (.tup ys) (.int i) o Q X := fun v d d' h r r' s => by
  cases r with
  | tup rs =>
    cases r'
    obtain ⟨z, ez, rz⟩ := atI_Y rs e
    dsimp only [ixD]
    rw [ez]
    exact PR.ok s rz q
theorem x_lst (l : Ls o x ys) (e : L2.atI ys i = some y) (q : Q y o) : VO2 ixD x (.int i) o Q X := fun v d d' h r r' s => by
  obtain ⟨n, ds, rfl, e1, rs⟩ := l.get s r
  cases r'
  obtain ⟨z, ez, rz⟩ := atI_Y rs e
  dsimp only [ixD]
  rw [e1]
  simp only
  rw [ez]
  exact PR.ok s rz q
theorem x_str {c : Nat} (hl : s.length ≤ szl) (e : L2.atI s.cps.toList i = some c) (q : Q (.str ⟨#[c]⟩) o) : VO2 ixD (.str s) (.int i) o Q X := fun v d d' h r r' sa => by
  cases r; cases r'
  dsimp only [ixD]
  rw [if_pos hl, e]
  exact PR.ok sa (.str _) q
theorem ixN_nat {n k : Nat} (h : k < n) : L2.ixN n (k : Int) = some k := by
  unfold L2.ixN
  simp [h]
theorem atI_nat {k : Nat} (e : ys[k]? = some y) : L2.atI ys (k : Int) = some y := by
  unfold L2.atI
  rw [ixN_nat (List.getElem?_eq_some_iff.mp e).1]
  exact e
theorem f_len (l : Ls o x ys) (q : Q (.int ys.length) o) : VF fLen [x] o Q X := fun v ds h r s => by
  cases r with
  | cons r1 r2 =>
    cases r2
    obtain ⟨n, ds, rfl, e1, rs⟩ := l.get s r1
    show PR RY v o h (match lstAt h n with | some xs => _ | none => _) Q X
    rw [e1]
    simp only
    rw [rs.length]
    exact PR.ok s (.int _) q
theorem f_lenT (q : Q (.int ys.length) o) : VF fLen [.tup ys] o Q X := fun v ds h r s => by
  cases r with
  | cons r1 r2 =>
    cases r2
    cases r1 with
    | tup rs =>
      show PR RY v o h (.ok (.int _) h) Q X
      rw [rs.length]
      exact PR.ok s (.int _) q
theorem f_lenS (hl : s.length ≤ szl) (q : Q (.int s.length) o) : VF fLen [.str s] o Q X := fun v ds h r sa => by
  cases r with
  | cons r1 r2 =>
    cases r2
    cases r1
    show PR RY v o h (if s.length ≤ szl then _ else _) Q X
    rw [if_pos hl]
    exact PR.ok sa (.int _) q
theorem f_abs (q : Q (.int (if i < 0 then -i else i)) o) : VF fAbs [.int i] o Q X := fun v ds h r s => by
  cases r with | cons r1 r2 => cases r2; cases r1; exact PR.ok s (.int _) q
theorem f_int (q : Q (.int i) o) : VF fInt [.int i] o Q X := fun v ds h r s => by
  cases r with | cons r1 r2 => cases r2; cases r1; exact PR.ok s (.int _) q
theorem f_intB {b : Bool} (q : Q (.int (if b then 1 else 0)) o) : VF fInt [.bl b] o Q X := fun v ds h r s => by
  cases r with | cons r1 r2 => cases r2; cases r1; exact PR.ok s (.int _) q
theorem f_gcd (q : Q (.int ((Nat.gcd i.natAbs j.natAbs : Nat) : Int)) o) : VF fGcd [.int i, .int j] o Q X := fun v ds h r s => by
  cases r with | cons r1 r2 => cases r2 with | cons r2 r3 => cases r3; cases r1; cases r2; exact PR.ok s (.int _) q
theorem f_list (own : Bool) (l : Ls o x ys) (q : NL own ys o Q) : VF fList [x] o Q X := fun v ds h r s => by
  cases r with
  | cons r1 r2 =>
    cases r2
    obtain ⟨n, ds, rfl, e1, rs⟩ := l.get s r1
    show PR RY v o h (match lstAt h n with | some xs => _ | none => _) Q X
    rw [e1]
    exact q.out s rs
theorem f_tuple (l : Ls o x ys) (q : Q (.tup ys) o) : VF fTuple [x] o Q X := fun v ds h r s => by
  cases r with
  | cons r1 r2 =>
    cases r2
    obtain ⟨n, ds, rfl, e1, rs⟩ := l.get s r1
    show PR RY v o h (match lstAt h n with | some xs => _ | none => _) Q X
    rw [e1]
    exact PR.ok s (.tup rs) q
theorem bls_Y {v : Vw} : ∀ {ds : List D} {ns : List Bool}, RYs v ds (ns.map .bl) → blsOf ds = some ns
  | _, [], .nil => rfl
  | _, n :: ns, .cons (.bl _) r => by show (blsOf _).map _ = _; rw [bls_Y r]; rfl
theorem f_all {ns : List Bool} (l : Ls o x (ns.map .bl)) (q : Q (.bl (ns.all id)) o) : VF fAll [x] o Q X := fun v ds h r s => by
  cases r with
  | cons r1 r2 =>
    cases r2
    obtain ⟨n, ds, rfl, e1, rs⟩ := l.get s r1
    show PR RY v o h (match (lstAt h n).bind blsOf with | some xs => _ | none => _) Q X
    rw [e1, Option.bind_some, bls_Y rs]
    exact PR.ok s (.bl _) q
theorem f_any {ns : List Bool} (l : Ls o x (ns.map .bl)) (q : Q (.bl (ns.any id)) o) : VF fAny [x] o Q X := fun v ds h r s => by
  cases r with
  | cons r1 r2 =>
    cases r2
    obtain ⟨n, ds, rfl, e1, rs⟩ := l.get s r1
    show PR RY v o h (match (lstAt h n).bind blsOf with | some xs => _ | none => _) Q X
    rw [e1, Option.bind_some, bls_Y rs]
    exact PR.ok s (.bl _) q
def isTyY (t : Ty) : Y → Bool
  | .non => false
  | .bl _ => match t with | .int => true | .bool => true | _ => false
  | .int _ => match t with | .int => true | _ => false
  | .str _ => match t with | .str => true | _ => false
  | .tup _ => match t with | .tuple => true | _ => false
  | .lst _ => match t with | .list => true | _ => false
  | .frz _ => match t with | .list => true | _ => false
  | _ => false
def plY : Y → Bool
  | .own _ | .ins _ _ | .rg _ _ => false
  | _ => true
theorem vE_Is {t : Ty} {a : ED} (p : VE a E o (fun x o1 => plY x = true ∧ Q (.bl (isTyY t x)) o1) X) : VE (dIs t a) E o Q X := fun v e h re s =>
  (p v e h re s).bind fun v1 o1 h1 d y f1 s1 r1 ⟨pl, q⟩ => by
    have : isTy t d h1 = some (isTyY t y) := by
      cases r1 with
      | lst e r => show (lstAt _ _).map _ = _; unfold lstAt; rw [s1.vw _ _ e]; rfl
      | frz e r => show (lstAt _ _).map _ = _; unfold lstAt; rw [s1.vw _ _ e]; rfl
      | ins _ _ => cases pl
      | own => cases pl
      | rg => cases pl
      | _ => rfl
    rw [this]
    exact PR.ok s1 (.bl _) q
end
end Mn
namespace Mn
open PySem
section
variable {E E1 : Ey} {o o1 o2 : OC} {Q Q' : Y → OC → Prop} {X X' : XQ} {i j : Int} {x y z : Y} {ys zs : List Y} {s s' : Str} {n : Nat} {c c' : C} {k : C → OC}
theorem Sat.put {v : Vw} {h : Hh} {w : O} (s : Sat v o h) (a : At o n c k) (r : RC v w c') : Fr v o h v (k c') (h.set n w) ∧ Sat v (k c') (h.set n w) := by
  obtain ⟨x, e1, e2, _⟩ := s.oc _ a.mem
  have hl := (List.getElem?_eq_some_iff.mp e1).1
  have nm : ∀ m, m ∉ o.ks → n ≠ m := fun m hm z => hm (z ▸ List.mem_map_of_mem (f := (·.1)) a.mem)
  refine ⟨⟨fun _ _ z => z, fun m x e hm => ⟨?_, rfl, ?_⟩⟩, ⟨fun m x e => ?_, fun p hp => ?_, ?_⟩⟩
  · rw [List.getElem?_set_ne (nm m hm)]; exact e
  · show m ∉ (k c').ks
    rw [a.ks]; exact hm
  · have : n ≠ m := fun z => by subst z; rw [e] at e2; cases e2
    rw [List.getElem?_set_ne this]
    exact s.vw _ _ e
  · rcases a.mem' s.nd hp with e | ⟨h1, h2⟩
    · subst e
      exact ⟨w, List.getElem?_set_self hl, e2, r⟩
    · obtain ⟨u, g1, g2, g3⟩ := s.oc p h1
      exact ⟨u, by rw [List.getElem?_set_ne (fun z => h2 z.symm)]; exact g1, g2, g3⟩
  · show (k c').ks.Nodup
    rw [a.ks]; exact s.nd
theorem Sat.own {v : Vw} {h : Hh} (s : Sat v o h) (a : At o n (.lst ys) k) : ∃ ds, h[n]? = some (.lst ds) ∧ RYs v ds ys := by
  obtain ⟨x, e1, e2, r⟩ := s.oc _ a.mem
  cases r with
  | lst r => exact ⟨_, e1, r⟩
def Chk (c : D → Hh → Bool) (x : Y) (o : OC) : Prop := ∀ v d h, RY v d x → Sat v o h → c d h = true
theorem chk_L (l : Ls o x ys) : Chk chkL x o := fun v d h r s => by
  obtain ⟨n, ds, rfl, e, _⟩ := l.get s r
  show (lstAt h n).isSome = true
  rw [e]; rfl
theorem vE_M {ck : D → Hh → Bool} {f : D → List D → Hh → R D} {a : ED} {as : AD} (p : VE a E o (fun x o1 => Chk ck x o1 ∧ VA as E o1 (fun ys o2 => VM f x ys o2 Q X) X) X) : VE (dM ck f a as) E o Q X := fun v e h re s =>
  (p v e h re s).bind fun v1 o1 h1 d y f1 s1 r1 p1 => by
    rw [if_pos (p1.1 v1 d h1 r1 s1)]
    exact (p1.2 v1 e h1 (re.mono f1.mono) s1).bind fun v2 o2 h2 ds ys f2 s2 r2 p2 => p2 v2 d ds h2 (r1.mono f2.mono) r2 s2
theorem m_append' (a : At o n (.lst ys) k) (hl : ys.length < szl) (q : Q .non (k (.lst (ys ++ [y])))) : VM mAppend (.own n) [y] o Q X := fun v d ds h r rs s => by
  cases r
  cases rs with
  | cons r1 r2 =>
    cases r2
    obtain ⟨xs, e, rx⟩ := s.own a
    dsimp only [mAppend]
    rw [e]
    simp only
    rw [if_pos (by rw [rx.length]; exact hl)]
    obtain ⟨f, s'⟩ := s.put a (RC.lst (rx.snoc r1))
    exact ⟨v, _, _, f, s', .non, q⟩
theorem m_pop' (a : At o n (.lst ys) k) (hl : ys[ys.length - 1]? = some y) (q : Q y (k (.lst ys.dropLast))) : VM mPop (.own n) [] o Q X := fun v d ds h r rs s => by
  cases r
  cases rs
  obtain ⟨xs, e, rx⟩ := s.own a
  dsimp only [mPop]
  rw [e]
  simp only
  obtain ⟨d, e1, r1⟩ := rx.get (i := xs.length - 1) (by rw [rx.length]; exact hl)
  rw [e1]
  obtain ⟨f, s'⟩ := s.put a (RC.lst rx.dropLast)
  exact ⟨v, _, _, f, s', r1, q⟩
variable {Z : ZQ} {W : XS}
theorem PSR.base {v v1 : Vw} {h h1 : Hh} {r : RS} (f : Fr v o h v1 o1 h1) (p : PSR v1 o1 h1 r Z W) : PSR v o h r Z W := by
  cases r with
  | go fl e h' => cases fl with
    | nx => obtain ⟨v', o', b, f', s, ra, q⟩ := p; exact ⟨v', o', b, f.trans f', s, ra, q⟩
    | bk => obtain ⟨v', o', b, f', s, ra, q⟩ := p; exact ⟨v', o', b, f.trans f', s, ra, q⟩
    | ct => obtain ⟨v', o', b, f', s, ra, q⟩ := p; exact ⟨v', o', b, f.trans f', s, ra, q⟩
    | rt d => obtain ⟨v', o', b, y, f', s, ra, q⟩ := p; exact ⟨v', o', b, y, f.trans f', s, ra, q⟩
  | exc x e h' => obtain ⟨v', o', b, y, f', s, ra, q⟩ := p; exact ⟨v', o', b, y, f.trans f', s, ra, q⟩
  | stuck => exact p
theorem PSR.mono {Z' : ZQ} {W' : XS} {v : Vw} {h : Hh} {r : RS} (p : PSR v o h r Z W) (f : ∀ l E o, Z l E o → Z' l E o) (g : ∀ l E o, W l E o → W' l E o) : PSR v o h r Z' W' := by
  cases r with
  | go fl e h' => cases fl with
    | nx => obtain ⟨v', o', b, f', s, ra, q⟩ := p; exact ⟨v', o', b, f', s, ra, f _ _ _ q⟩
    | bk => obtain ⟨v', o', b, f', s, ra, q⟩ := p; exact ⟨v', o', b, f', s, ra, f _ _ _ q⟩
    | ct => obtain ⟨v', o', b, f', s, ra, q⟩ := p; exact ⟨v', o', b, f', s, ra, f _ _ _ q⟩
    | rt d => obtain ⟨v', o', b, y, f', s, ra, ry, q⟩ := p; exact ⟨v', o', b, y, f', s, ra, ry, f _ _ _ q⟩
  | exc x e h' => obtain ⟨v', o', b, y, f', s, ra, ry, q⟩ := p; exact ⟨v', o', b, y, f', s, ra, ry, g _ _ _ q⟩
  | stuck => exact p
theorem VS.mono {Z' : ZQ} {W' : XS} {t : SD} (p : VS t E o Z W) (f : ∀ l E o, Z l E o → Z' l E o) (g : ∀ l E o, W l E o → W' l E o) : VS t E o Z' W' := fun v e h re s => (p v e h re s).mono f g
theorem PR.toS {α β : Type} {RA : Vw → α → β → Prop} {v : Vw} {h : Hh} {r : R α} {e : Ev} {f : α → Hh → RS} {Q1 : β → OC → Prop} (re : REy v e E) (p : PR RA v o h r Q1 (fun x o => W x E o))
    (k : ∀ v1 o1 h1 a b, Fr v o h v1 o1 h1 → Sat v1 o1 h1 → RA v1 a b → Q1 b o1 → PSR v1 o1 h1 (f a h1) Z W) : PSR v o h (r.toS e f) Z W := by
  cases r with
  | ok a h' => obtain ⟨v', o', b, f', s, ra, q⟩ := p; exact PSR.base f' (k v' o' h' a b f' s ra q)
  | exc x h' => obtain ⟨v', o', y, f', s, ra, q⟩ := p; exact ⟨v', o', E, y, f', s, re.mono f'.mono, ra, q⟩
  | stuck => exact p
abbrev xe (W : XS) (E : Ey) : XQ := fun x o => W x E o
theorem vs_nx (q : Z .nx E o) : VS sNx E o Z W := fun v e h re s => ⟨v, o, E, Fr.refl _ _ _, s, re, q⟩
theorem vs_bk (q : Z .bk E o) : VS sBk E o Z W := fun v e h re s => ⟨v, o, E, Fr.refl _ _ _, s, re, q⟩
theorem vs_ex {a : ED} (p : VE a E o (fun _ o1 => Z .nx E o1) (xe W E)) : VS (sEx a) E o Z W := fun v e h re s =>
  PR.toS re (p v e h re s) fun v1 o1 h1 d y f1 s1 r1 q => ⟨v1, o1, E, Fr.refl _ _ _, s1, re.mono f1.mono, q⟩
theorem vs_rt {a : ED} (p : VE a E o (fun y o1 => Z (.rt y) E o1) (xe W E)) : VS (sRt a) E o Z W := fun v e h re s =>
  PR.toS re (p v e h re s) fun v1 o1 h1 d y f1 s1 r1 q => ⟨v1, o1, E, y, Fr.refl _ _ _, s1, re.mono f1.mono, r1, q⟩
def sqK (t : SD) (Z : ZQ) (W : XS) : ZQ := fun f E o => match f with
  | .nx => VS t E o Z W
  | f => Z f E o
theorem sq_nx {t : SD} (q : VS t E o Z W) : sqK t Z W .nx E o := q
theorem sq_rt {t : SD} (q : Z (.rt y) E o) : sqK t Z W (.rt y) E o := q
theorem sq_bk {t : SD} (q : Z .bk E o) : sqK t Z W .bk E o := q
theorem vs_sq {a b : SD} (p : VS a E o (sqK b Z W) W) : VS (sSq a b) E o Z W := fun v e h re s => by
  have p := p v e h re s
  unfold sSq
  cases q : a e h with
  | go fl e1 h1 =>
    rw [q] at p
    cases fl with
    | nx =>
      obtain ⟨v', o', b', f', s', ra, q'⟩ := p
      exact PSR.base f' (q' v' e1 h1 ra s')
    | bk => exact p
    | ct => exact p
    | rt d => exact p
  | exc x e1 h1 => rw [q] at p; exact p
  | stuck => rw [q] at p; exact p
theorem vs_if {t : TD} {a b : SD} (p : VT t E o (fun k o1 => cnd k (VS a E o1 Z W) (VS b E o1 Z W)) (xe W E)) : VS (sIf t a b) E o Z W := fun v e h re s =>
  PR.toS re (p v e h re s) fun v1 o1 h1 d y f1 s1 r1 q => by
    subst r1
    cases d
    · exact q v1 e h1 (re.mono f1.mono) s1
    · exact q v1 e h1 (re.mono f1.mono) s1
def TgY (tg : Tg) (y : Y) (E E1 : Ey) : Prop := ∀ v d e, RY v d y → REy v e E → ∃ e1, tg d e = some e1 ∧ REy v e1 E1
theorem tg_n {m : Nat} : TgY (gN m) y E (E.set m (some y)) := fun v d e r re => ⟨_, rfl, re.set m r⟩
def setY : Ey → List Nat → List Y → Ey
  | E, i :: is, y :: ys => setY (E.set i (some y)) is ys
  | E, _, _ => E
theorem tg_t {is : List Nat} (hl : ys.length = is.length) : TgY (gT is) (.tup ys) E (setY E is ys) := fun v d e r re => by
  cases r with
  | @tup ds _ rs =>
    unfold gT
    simp only
    rw [if_pos (by rw [rs.length]; exact hl)]
    refine ⟨_, rfl, ?_⟩
    clear hl
    induction is generalizing e E ds ys with
    | nil => cases rs <;> exact re
    | cons m is ih =>
      cases rs with
      | nil => exact re
      | cons r1 r2 => exact ih _ (re.set m r1) r2
theorem vs_as {a : ED} {tg : Tg} (p : VE a E o (fun y o1 => ∃ E1, TgY tg y E E1 ∧ Z .nx E1 o1) (xe W E)) : VS (sAs a (ofG tg)) E o Z W := fun v e h re s =>
  PR.toS re (p v e h re s) fun v1 o1 h1 d y f1 s1 r1 ⟨E1, t1, q⟩ => by
    obtain ⟨e1, t2, re1⟩ := t1 v1 d e r1 (re.mono f1.mono)
    unfold ofG
    rw [t2]
    exact ⟨v1, o1, E1, Fr.refl _ _ _, s1, re1, q⟩
theorem vs_asN {a : ED} {m : Nat} (p : VE a E o (fun y o1 => Z .nx (E.set m (some y)) o1) (xe W E)) : VS (sAs a (ofG (gN m))) E o Z W :=
  vs_as (p.mono (fun y o q => ⟨_, tg_n, q⟩) fun _ _ q => q)
def VSet (x i d : Y) (o : OC) (q : OC → Prop) : Prop := ∀ v dx di dd h, RY v dx x → RY v di i → RY v dd d → Sat v o h → ∃ v' o' h', setD dx di dd h = .ok () h' ∧ Fr v o h v' o' h' ∧ Sat v' o' h' ∧ q o'
theorem st_own {m : Nat} {q : OC → Prop} (a : At o n (.lst ys) k) (hi : L2.ixN ys.length i = some m) (p : q (k (.lst (ys.set m y)))) : VSet (.own n) (.int i) y o q := fun v dx di dd h r1 r2 r3 s => by
  cases r1; cases r2
  obtain ⟨xs, e, rx⟩ := s.own a
  obtain ⟨f, s'⟩ := s.put a (RC.lst (rx.set m r3))
  refine ⟨v, _, _, ?_, f, s', p⟩
  dsimp only [setD]
  rw [e]
  simp only
  rw [rx.length, hi]
theorem vs_asI {a b c : ED} (p : VE a E o (fun d o1 => VE b E o1 (fun x o2 => VE c E o2 (fun i o3 => VSet x i d o3 (fun o4 => Z .nx E o4)) (xe W E)) (xe W E)) (xe W E)) : VS (sAs a (gIx b c)) E o Z W := fun v e h re s =>
  PR.toS re (p v e h re s) fun v1 o1 h1 d y f1 s1 r1 p1 => by
    have p1 := p1 v1 e h1 (re.mono f1.mono) s1
    unfold gIx
    cases q1 : b e h1 with
    | stuck => rw [q1] at p1; exact p1.elim
    | exc x h2 =>
      rw [q1] at p1
      obtain ⟨v2, o2, y2, f2, s2, r2, p2⟩ := p1
      exact ⟨v2, o2, E, y2, f2, s2, (re.mono f1.mono).mono f2.mono, r2, p2⟩
    | ok d2 h2 =>
      rw [q1] at p1
      obtain ⟨v2, o2, y2, f2, s2, r2, p2⟩ := p1
      refine PSR.base f2 ?_
      have p2 := p2 v2 e h2 ((re.mono f1.mono).mono f2.mono) s2
      show PSR v2 o2 h2 (((c e h2).bind fun y h3 => _).toS e _) Z W
      cases q2 : c e h2 with
      | stuck => rw [q2] at p2; exact p2.elim
      | exc x h3 =>
        rw [q2] at p2
        obtain ⟨v3, o3, y3, f3, s3, r3, p3⟩ := p2
        exact ⟨v3, o3, E, y3, f3, s3, ((re.mono f1.mono).mono f2.mono).mono f3.mono, r3, p3⟩
      | ok d3 h3 =>
        rw [q2] at p2
        obtain ⟨v3, o3, y3, f3, s3, r3, p3⟩ := p2
        refine PSR.base f3 ?_
        obtain ⟨v4, o4, h4, e4, f4, s4, p4⟩ := p3 v3 d2 d3 d h3 (r2.mono f3.mono) r3 ((r1.mono f2.mono).mono f3.mono) s3
        show PSR v3 o3 h3 (((setD d2 d3 d h3).bind fun _ h4 => .ok e h4).toS e _) Z W
        rw [e4]
        exact ⟨v4, o4, E, f4, s4, (((re.mono f1.mono).mono f2.mono).mono f3.mono).mono f4.mono, p4⟩
theorem vs_raise {cl : Nat} (q : W ⟨cl, []⟩ E o) : VS (sRaise cl) E o Z W := fun v e h re s => ⟨v, o, E, ⟨cl, []⟩, Fr.refl _ _ _, s, re, ⟨rfl, .nil⟩, q⟩
def tryW (sub : Nat → Nat → Option Bool) (hd : Hd) (su : Xy → SD) (Z : ZQ) (W : XS) : XS := fun x E o =>
  (sub x.cls hd.cls = some true ∧ slotOk (E.map fun _ => none) hd.slot = true ∧ VS (su x) (match hd.slot with | some i => E.set i none | none => E) o (fun f E2 o2 => Z f (match hd.slot with | some i => E2.set i none | none => E2) o2) nos) ∨ (sub x.cls hd.cls = some false ∧ W x E o)
theorem vs_try {sub : Nat → Nat → Option Bool} {hd : Hd} {b : SD} {su : Xy → SD} (hsu : ∀ v x y, RXy v x y → ∀ E o Z, VS (su y) E o Z nos → ∀ e h, REy v e E → Sat v o h → PSR v o h (hd.suite x e h) Z nos) (p : VS b E o Z (tryW sub hd su Z W)) : VS (sTry sub b hd) E o Z W := fun v e h re s => by
  have p := p v e h re s
  unfold sTry
  cases q : b e h with
  | stuck => rw [q] at p; exact p
  | go fl e1 h1 =>
    rw [q] at p
    cases fl <;> exact p
  | exc x e1 h1 =>
    rw [q] at p
    obtain ⟨v1, o1, E1, y, f1, s1, re1, rx, p1⟩ := p
    refine PSR.base f1 ?_
    rcases p1 with ⟨q1, q2, q3⟩ | ⟨q1, q2⟩
    · have ec : sub x.cls hd.cls = some true := by rw [rx.1]; exact q1
      simp only [ec]
      have sl : slotOk e1 hd.slot = true := by
        unfold slotOk at q2 ⊢
        cases z : hd.slot with
        | none => rfl
        | some i => rw [z] at q2; simp only [List.length_map] at q2; simp only [re1.len]; exact q2
      rw [if_pos sl]
      have re2 : REy v1 (clr e1 hd.slot) (match hd.slot with | some i => E1.set i none | none => E1) := by
        cases z : hd.slot with
        | none => exact re1
        | some i => exact re1.drop1 i none
      have p3 := hsu v1 x y rx _ _ _ q3 _ h1 re2 s1
      have out : ∀ {v2 : Vw} {e2 : Ev} {E2 : Ey}, REy v2 e2 E2 → REy v2 (clr e2 hd.slot) (match hd.slot with | some i => E2.set i none | none => E2) := fun {v2 e2 E2} r => by
        cases z : hd.slot with
        | none => exact r
        | some i => exact r.drop1 i none
      cases w : hd.suite x (clr e1 hd.slot) h1 with
      | stuck => rw [w] at p3; exact p3.elim
      | exc _ _ _ => rw [w] at p3; obtain ⟨_, _, _, _, _, _, _, _, z⟩ := p3; exact z.elim
      | go fl e2 h2 =>
        rw [w] at p3
        cases fl with
        | nx => obtain ⟨v', o', b', f', s', ra, q'⟩ := p3; exact ⟨v', o', _, f', s', out ra, q'⟩
        | bk => obtain ⟨v', o', b', f', s', ra, q'⟩ := p3; exact ⟨v', o', _, f', s', out ra, q'⟩
        | ct => obtain ⟨v', o', b', f', s', ra, q'⟩ := p3; exact ⟨v', o', _, f', s', out ra, q'⟩
        | rt d => obtain ⟨v', o', b', y', f', s', ra, ry, q'⟩ := p3; exact ⟨v', o', _, y', f', s', out ra, ry, q'⟩
    · have ec : sub x.cls hd.cls = some false := by rw [rx.1]; exact q1
      simp only [ec]
      exact ⟨v1, o1, E1, y, Fr.refl _ _ _, s1, re1, rx, q2⟩
def SrcOk (v : Vw) (h : Hh) (ns : List Nat) (src : List (Nat × List D)) : Prop := ∀ p ∈ src, (v p.1 = some (.lst p.2) ∨ v p.1 = some (.frz p.2)) ∨ (p.1 ∈ ns ∧ h[p.1]? = some (.lst p.2))
def VI (it : ID) (E : Ey) (o : OC) (Q : List Y → List Nat → OC → Prop) (X : XQ) : Prop := ∀ v e h, REy v e E → Sat v o h → match it e h with
  | .ok sq h' => ∃ v' o' ys ns, Fr v o h v' o' h' ∧ Sat v' o' h' ∧ RYs v' sq.items ys ∧ SrcOk v' h' ns sq.src ∧ Q ys ns o'
  | .exc x h' => ∃ v' o' y, Fr v o h v' o' h' ∧ Sat v' o' h' ∧ RXy v' x y ∧ X y o'
  | .stuck => False
inductive Lw (o : OC) : Y → List Y → List Nat → Prop
  | lst (ys : List Y) : Lw o (.lst ys) ys []
  | frz (ys : List Y) : Lw o (.frz ys) ys []
  | own {n : Nat} {ys : List Y} {k : C → OC} : At o n (.lst ys) k → Lw o (.own n) ys [n]
theorem Lw.get {ns : List Nat} (l : Lw o y ys ns) {v : Vw} {h : Hh} (s : Sat v o h) {d : D} (r : RY v d y) : ∃ n ds, d = .ref n ∧ lstAt h n = some ds ∧ RYs v ds ys ∧ ((v n = some (.lst ds) ∨ v n = some (.frz ds)) ∨ (n ∈ ns ∧ h[n]? = some (.lst ds))) := by
  cases l with
  | lst ys =>
    cases r with
    | lst e q => exact ⟨_, _, rfl, by unfold lstAt; rw [s.vw _ _ e], q, .inl (.inl e)⟩
  | frz ys =>
    cases r with
    | frz e q => exact ⟨_, _, rfl, by unfold lstAt; rw [s.vw _ _ e], q, .inl (.inr e)⟩
  | own a =>
    cases r with
    | own =>
      obtain ⟨x, e, _, rc⟩ := s.oc _ a.mem
      cases rc with
      | lst q => exact ⟨_, _, rfl, by unfold lstAt; rw [e], q, .inr ⟨List.mem_singleton.mpr rfl, e⟩⟩
variable {QI : List Y → List Nat → OC → Prop} {a b : ED}
theorem VI.of {v : Vw} {h : Hh} {r : R D} {f : D → Hh → R Sq} {Q1 : Y → OC → Prop} (p : PR RY v o h r Q1 X)
    (k : ∀ v1 o1 h1 d y, Fr v o h v1 o1 h1 → Sat v1 o1 h1 → RY v1 d y → Q1 y o1 → match f d h1 with
      | .ok sq h' => ∃ v' o' ys ns, Fr v1 o1 h1 v' o' h' ∧ Sat v' o' h' ∧ RYs v' sq.items ys ∧ SrcOk v' h' ns sq.src ∧ QI ys ns o'
      | .exc x h' => ∃ v' o' y, Fr v1 o1 h1 v' o' h' ∧ Sat v' o' h' ∧ RXy v' x y ∧ X y o'
      | .stuck => False) : match r.bind f with
      | .ok sq h' => ∃ v' o' ys ns, Fr v o h v' o' h' ∧ Sat v' o' h' ∧ RYs v' sq.items ys ∧ SrcOk v' h' ns sq.src ∧ QI ys ns o'
      | .exc x h' => ∃ v' o' y, Fr v o h v' o' h' ∧ Sat v' o' h' ∧ RXy v' x y ∧ X y o'
      | .stuck => False := by
  cases r with
  | stuck => exact p
  | exc x h' => exact p
  | ok d h1 =>
    obtain ⟨v1, o1, y, f1, s1, r1, q1⟩ := p
    have k := k v1 o1 h1 d y f1 s1 r1 q1
    show match f d h1 with
      | .ok sq h' => ∃ v' o' ys ns, Fr v o h v' o' h' ∧ Sat v' o' h' ∧ RYs v' sq.items ys ∧ SrcOk v' h' ns sq.src ∧ QI ys ns o'
      | .exc x h' => ∃ v' o' y, Fr v o h v' o' h' ∧ Sat v' o' h' ∧ RXy v' x y ∧ X y o'
      | .stuck => False
    cases z : f d h1 with
    | stuck => rw [z] at k; exact k
    | exc x h' => rw [z] at k; obtain ⟨v', o', y', f', rest⟩ := k; exact ⟨v', o', y', f1.trans f', rest⟩
    | ok sq h' => rw [z] at k; obtain ⟨v', o', ys, ns, f', rest⟩ := k; exact ⟨v', o', ys, ns, f1.trans f', rest⟩
theorem vi_seq (p : VE a E o (fun y o1 => ∃ ys ns, Lw o1 y ys ns ∧ QI ys ns o1) X) : VI (iSeq a) E o QI X := fun v e h re s => by
  refine VI.of (p v e h re s) fun v1 o1 h1 d y f1 s1 r1 ⟨ys, ns, l, q⟩ => ?_
  obtain ⟨n, ds, rfl, e1, rs, so⟩ := l.get s1 r1
  simp only [e1]
  exact ⟨v1, o1, ys, ns, Fr.refl _ _ _, s1, rs, fun p hp => by rw [List.mem_singleton] at hp; subst hp; exact so, q⟩
theorem vi_seqT (p : VE a E o (fun y o1 => ∃ ys, y = .tup ys ∧ QI ys [] o1) X) : VI (iSeq a) E o QI X := fun v e h re s => by
  refine VI.of (p v e h re s) fun v1 o1 h1 d y f1 s1 r1 ⟨ys, ey, q⟩ => ?_
  subst ey
  cases r1 with
  | tup rs => exact ⟨v1, o1, ys, [], Fr.refl _ _ _, s1, rs, fun p hp => (by cases hp), q⟩
theorem chs_Y {v : Vw} : ∀ l : List Nat, RYs v (l.map fun c => D.str ⟨#[c]⟩) (l.map fun c => Y.str ⟨#[c]⟩)
  | [] => .nil
  | c :: l => .cons (.str _) (chs_Y l)
theorem vi_seqS (p : VE a E o (fun y o1 => ∃ s : Str, y = .str s ∧ QI (s.cps.toList.map fun c => .str ⟨#[c]⟩) [] o1) X) : VI (iSeq a) E o QI X := fun v e h re s => by
  refine VI.of (p v e h re s) fun v1 o1 h1 d y f1 s1 r1 ⟨z, ey, q⟩ => ?_
  subst ey
  cases r1
  exact ⟨v1, o1, _, [], Fr.refl _ _ _, s1, chs_Y _, fun p hp => (by cases hp), q⟩
def rngY (lo : Int) (n : Nat) : List Y := (List.range n).map fun (i : Nat) => .int (lo + (i : Int))
theorem rng_Y {v : Vw} {lo : Int} {n : Nat} : RYs v (rngD lo n) (rngY lo n) := by
  unfold rngD rngY
  generalize List.range n = l
  induction l with
  | nil => exact .nil
  | cons x l ih => exact .cons (.int _) ih
abbrev rB (i : Int) : Prop := -(2 ^ 62) ≤ i ∧ i < 2 ^ 62
theorem vi_range1 (p : VE a E o (fun y o1 => ∃ hi : Int, y = .int hi ∧ rB hi ∧ QI (rngY 0 hi.toNat) [] o1) X) : VI (iRange1 a) E o QI X := fun v e h re s => by
  refine VI.of (p v e h re s) fun v1 o1 h1 d y f1 s1 r1 ⟨hi, ey, hb, q⟩ => ?_
  subst ey
  cases r1
  simp only [rng]
  rw [if_pos ⟨by decide, by decide, hb.1, hb.2⟩]
  simp only [Int.sub_zero]
  exact ⟨v1, o1, _, [], Fr.refl _ _ _, s1, rng_Y, fun p hp => (by cases hp), q⟩
theorem vi_range2 (p : VE a E o (fun x o1 => VE b E o1 (fun y o2 => ∃ lo hi : Int, x = .int lo ∧ y = .int hi ∧ rB lo ∧ rB hi ∧ QI (rngY lo (hi - lo).toNat) [] o2) X) X) : VI (iRange2 a b) E o QI X := fun v e h re s => by
  refine VI.of (p v e h re s) fun v1 o1 h1 d y f1 s1 r1 p1 => VI.of (p1 v1 e h1 (re.mono f1.mono) s1) fun v2 o2 h2 d2 y2 f2 s2 r2 ⟨lo, hi, ex, ey, hb1, hb, q⟩ => ?_
  subst ex; subst ey
  cases r1; cases r2
  simp only [rng]
  rw [if_pos ⟨hb1.1, hb1.2, hb.1, hb.2⟩]
  exact ⟨v2, o2, _, [], Fr.refl _ _ _, s2, rng_Y, fun p hp => (by cases hp), q⟩
theorem enum_Y {v : Vw} {ds : List D} {ys : List Y} (r : RYs v ds ys) : ∀ n, RYs v ((ds.zipIdx n).map fun p => .tup [.int (p.2 : Nat), p.1]) ((ys.zipIdx n).map fun p => .tup [.int (p.2 : Nat), p.1]) := by
  intro n
  induction ds generalizing n ys with
  | nil => cases r; exact .nil
  | cons d ds ih =>
    cases r with
    | cons r1 r2 => exact .cons (.tup (.cons (.int _) (.cons r1 .nil))) (ih r2 (n + 1))
theorem vi_enum (p : VE a E o (fun y o1 => ∃ ys ns, Lw o1 y ys ns ∧ QI (ys.zipIdx.map fun p => .tup [.int (p.2 : Nat), p.1]) ns o1) X) : VI (iEnum a) E o QI X := fun v e h re s => by
  refine VI.of (p v e h re s) fun v1 o1 h1 d y f1 s1 r1 ⟨ys, ns, l, q⟩ => ?_
  obtain ⟨n, ds, rfl, e1, rs, so⟩ := l.get s1 r1
  simp only [e1]
  exact ⟨v1, o1, _, ns, Fr.refl _ _ _, s1, enum_Y rs 0, fun p hp => by rw [List.mem_singleton] at hp; subst hp; exact so, q⟩
theorem vi_enumT (p : VE a E o (fun y o1 => ∃ ys, y = .tup ys ∧ QI (ys.zipIdx.map fun p => .tup [.int (p.2 : Nat), p.1]) [] o1) X) : VI (iEnum a) E o QI X := fun v e h re s => by
  refine VI.of (p v e h re s) fun v1 o1 h1 d y f1 s1 r1 ⟨ys, ey, q⟩ => ?_
  subst ey
  cases r1 with
  | tup rs => exact ⟨v1, o1, _, [], Fr.refl _ _ _, s1, enum_Y rs 0, fun p hp => (by cases hp), q⟩
inductive Rms : OC → List Nat → OC → OC → Prop
  | nil {o : OC} : Rms o [] o []
  | cons {o o1 o2 cs : OC} {n : Nat} {ys : List Y} {ns : List Nat} : Rm o n (.lst ys) o1 → Rms o1 ns o2 cs → Rms o (n :: ns) o2 ((n, .lst ys) :: cs)
theorem Rms.sub {o o2 cs : OC} {ns : List Nat} (r : Rms o ns o2 cs) : o2.Sublist o := by
  induction r with
  | nil => exact List.Sublist.refl _
  | cons a _ ih => exact ih.trans a.sub
theorem Rms.csub {o o2 cs : OC} {ns : List Nat} (r : Rms o ns o2 cs) : cs.ks = ns ∧ (∀ p ∈ cs, p ∈ o) ∧ (o.ks.Nodup → cs.ks.Nodup ∧ ∀ n ∈ cs.ks, n ∉ o2.ks) := by
  induction r with
  | nil => exact ⟨rfl, fun _ h => (by cases h), fun _ => ⟨List.nodup_nil, fun _ h => (by cases h)⟩⟩
  | @cons o o1 o2 cs n ys ns a r ih =>
    obtain ⟨h1, h2, h3⟩ := ih
    refine ⟨by show n :: cs.ks = _; rw [h1], fun p hp => ?_, fun nd => ?_⟩
    · rcases List.mem_cons.mp hp with h | h
      · exact h ▸ a.mem
      · exact a.sub.subset (h2 p h)
    · obtain ⟨g1, g2⟩ := h3 (nd.sublist (a.sub.map _))
      have an := a.ne nd
      refine ⟨List.nodup_cons.mpr ⟨fun m => an ?_, g1⟩, fun m hm => ?_⟩
      · obtain ⟨p, hp, e⟩ := List.mem_map.mp m
        have e : p.1 = n := e
        rw [← e]; exact List.mem_map_of_mem (f := (·.1)) (h2 p hp)
      · rcases List.mem_cons.mp hm with h | h
        · subst h; exact fun z => an ((r.sub.map _).subset z)
        · exact g2 m h
theorem Sat.less {v : Vw} {h : Hh} {o o2 : OC} (s : Sat v o h) (r : o2.Sublist o) : Sat v o2 h := ⟨s.vw, fun p hp => s.oc p (r.subset hp), s.nd.sublist (r.map _)⟩
theorem Fr.less {v : Vw} {h : Hh} {o o2 : OC} (r : o2.Sublist o) : Fr v o h v o2 h := ⟨fun _ _ e => e, fun n x e hn => ⟨e, rfl, fun z => hn ((r.map _).subset z)⟩⟩
theorem Rms.back {v v' : Vw} {h h' : Hh} {o o2 o3 cs : OC} {ns : List Nat} (r : Rms o ns o2 cs) (s : Sat v o h) (f : Fr v o2 h v' o3 h') (s' : Sat v' o3 h') : Fr v o h v' (cs ++ o3) h' ∧ Sat v' (cs ++ o3) h' := by
  obtain ⟨h1, h2, h3⟩ := r.csub
  obtain ⟨g1, g2⟩ := h3 s.nd
  have cell : ∀ p ∈ cs, ∃ x, h[p.1]? = some x ∧ v p.1 = none ∧ RC v x p.2 := fun p hp => s.oc p (h2 p hp)
  have kp : ∀ p ∈ cs, p.1 ∉ o2.ks := fun p hp => g2 p.1 (List.mem_map_of_mem (f := (·.1)) hp)
  refine ⟨⟨f.mono, fun n x e hn => ?_⟩, ⟨s'.vw, fun p hp => ?_, ?_⟩⟩
  · have n2 : n ∉ o2.ks := fun z => hn ((r.sub.map _).subset z)
    obtain ⟨k1, k2, k3⟩ := f.keep n x e n2
    refine ⟨k1, k2, fun z => ?_⟩
    rcases List.mem_append.mp (by simpa [OC.ks] using z : n ∈ cs.ks ++ o3.ks) with z | z
    · obtain ⟨p, hp, e⟩ := List.mem_map.mp z
      exact hn (e ▸ List.mem_map_of_mem (f := (·.1)) (h2 p hp))
    · exact k3 z
  · rcases List.mem_append.mp hp with hp | hp
    · obtain ⟨x, e1, e2, e3⟩ := cell p hp
      obtain ⟨k1, k2, k3⟩ := f.keep _ _ e1 (kp p hp)
      exact ⟨x, k1, k2.trans e2, e3.mono f.mono⟩
    · exact s'.oc p hp
  · show (cs ++ o3).ks.Nodup
    have : (cs ++ o3).ks = cs.ks ++ o3.ks := by simp [OC.ks]
    rw [this, List.nodup_append]
    refine ⟨g1, s'.nd, fun n hn m hm z => ?_⟩
    subst z
    obtain ⟨p, hp, e⟩ := List.mem_map.mp hn
    obtain ⟨x, e1, e2, e3⟩ := cell p hp
    exact (f.keep _ _ e1 (kp p hp)).2.2 (by rw [e]; exact hm)
def loopZ (I : Ey → OC → Prop) (cs : OC) (Z : ZQ) : ZQ := fun f E o => match f with
  | .nx => I E o
  | .ct => I E o
  | .bk => Z .nx E (cs ++ o)
  | .rt y => Z (.rt y) E (cs ++ o)
theorem lz_nx {I : Ey → OC → Prop} {cs : OC} (q : I E o) : loopZ I cs Z .nx E o := q
theorem lz_bk {I : Ey → OC → Prop} {cs : OC} (q : Z .nx E (cs ++ o)) : loopZ I cs Z .bk E o := q
def loopW (cs : OC) (W : XS) : XS := fun x E o => W x E (cs ++ o)
def ForG (tg : Tg) (body : SD) (ys : List Y) (ns : List Nat) (E : Ey) (o : OC) (Z : ZQ) (W : XS) : Prop := ∃ (o2 cs : OC) (I : List Y → Ey → OC → Prop), Rms o ns o2 cs ∧ I [] E o2 ∧
  (∀ pre y post E o, ys = pre ++ y :: post → I pre E o → ∃ E1, TgY tg y E E1 ∧ VS body E1 o (loopZ (I (pre ++ [y])) cs Z) (loopW cs W)) ∧ ∀ E o, I ys E o → Z .nx E (cs ++ o)
theorem for_run {tg : Tg} {body : SD} {src : List (Nat × List D)} {ns : List Nat} {v : Vw} {h : Hh} {o o2 cs : OC} {I : List Y → Ey → OC → Prop} {all : List Y} (s : Sat v o h) (r : Rms o ns o2 cs) (so : SrcOk v h ns src)
    (st : ∀ pre y post E o, all = pre ++ y :: post → I pre E o → ∃ E1, TgY tg y E E1 ∧ VS body E1 o (loopZ (I (pre ++ [y])) cs Z) (loopW cs W)) (en : ∀ E o, I all E o → Z .nx E (cs ++ o)) :
    ∀ (ds : List D) (pre post : List Y) (v1 : Vw) (o1 : OC) (h1 : Hh) (e : Ev) (E : Ey), all = pre ++ post → RYs v1 ds post → Fr v o2 h v1 o1 h1 → Sat v1 o1 h1 → REy v1 e E → I pre E o1 → PSR v o h (forGo src tg body ds e h1) Z W := by
  have srcok : ∀ {v1 : Vw} {o1 : OC} {h1 : Hh}, Fr v o2 h v1 o1 h1 → Sat v1 o1 h1 → srcOk src h1 := fun {v1 o1 h1} f s1 p hp => by
    rcases so p hp with (q | q) | ⟨q1, q2⟩
    · unfold lstAt; rw [s1.vw _ _ (f.mono _ _ q)]
    · unfold lstAt; rw [s1.vw _ _ (f.mono _ _ q)]
    · obtain ⟨c1, c2, c3⟩ := r.csub
      have := (f.keep _ _ q2 ((c3 s.nd).2 p.1 (c1 ▸ q1))).1
      unfold lstAt; rw [this]
  intro ds
  induction ds with
  | nil =>
    intro pre post v1 o1 h1 e E ea rs f s1 re i
    cases rs
    unfold forGo
    rw [if_pos (srcok f s1)]
    obtain ⟨f', s'⟩ := r.back s f s1
    rw [List.append_nil] at ea
    subst ea
    exact ⟨v1, _, E, f', s', re, en _ _ i⟩
  | cons d ds ih =>
    intro pre post v1 o1 h1 e E ea rs f s1 re i
    cases rs with
    | @cons _ y _ post r1 r2 =>
      unfold forGo
      rw [if_pos (srcok f s1)]
      obtain ⟨E1, t, b⟩ := st pre y post E o1 ea i
      obtain ⟨e1, te, re1⟩ := t v1 d e r1 re
      rw [te]
      simp only
      have b := b v1 e1 h1 re1 s1
      cases q : body e1 h1 with
      | stuck => rw [q] at b; exact b.elim
      | exc x e2 h2 =>
        rw [q] at b
        obtain ⟨v2, o3, E2, y2, f2, s2, re2, rx, w⟩ := b
        obtain ⟨f', s'⟩ := r.back s (f.trans f2) s2
        exact ⟨v2, _, E2, y2, f', s', re2, rx, w⟩
      | go fl e2 h2 =>
        rw [q] at b
        cases fl with
        | nx =>
          obtain ⟨v2, o3, E2, f2, s2, re2, w⟩ := b
          exact ih (pre ++ [y]) post v2 o3 h2 e2 E2 (by rw [List.append_assoc]; exact ea) (r2.mono f2.mono) (f.trans f2) s2 re2 w
        | ct =>
          obtain ⟨v2, o3, E2, f2, s2, re2, w⟩ := b
          exact ih (pre ++ [y]) post v2 o3 h2 e2 E2 (by rw [List.append_assoc]; exact ea) (r2.mono f2.mono) (f.trans f2) s2 re2 w
        | bk =>
          obtain ⟨v2, o3, E2, f2, s2, re2, w⟩ := b
          obtain ⟨f', s'⟩ := r.back s (f.trans f2) s2
          exact ⟨v2, _, E2, f', s', re2, w⟩
        | rt d2 =>
          obtain ⟨v2, o3, E2, y2, f2, s2, re2, ry, w⟩ := b
          obtain ⟨f', s'⟩ := r.back s (f.trans f2) s2
          exact ⟨v2, _, E2, y2, f', s', re2, ry, w⟩
theorem vs_for {it : ID} {tg : Tg} {body : SD} (p : VI it E o (fun ys ns o1 => ForG tg body ys ns E o1 Z W) (xe W E)) : VS (sFor it tg body) E o Z W := fun v e h re s => by
  have p := p v e h re s
  unfold sFor
  cases q : it e h with
  | stuck => rw [q] at p; exact p.elim
  | exc x h1 =>
    rw [q] at p
    obtain ⟨v1, o1, y, f1, s1, rx, w⟩ := p
    exact ⟨v1, o1, E, y, f1, s1, re.mono f1.mono, rx, w⟩
  | ok sq h1 =>
    rw [q] at p
    obtain ⟨v1, o1, ys, ns, f1, s1, rs, so, o2, cs, I, rm, i0, st, en⟩ := p
    refine PSR.base f1 ?_
    exact for_run s1 rm so st en sq.items [] ys v1 o2 h1 e E rfl rs (Fr.refl _ _ _) (s1.less rm.sub) (re.mono f1.mono) i0
end
end Mn
namespace Mn
open PySem
section
variable {E E1 : Ey} {o o1 o2 : OC} {Q Q' : Y → OC → Prop} {X X' : XQ} {i j : Int} {x y z : Y} {ys zs : List Y} {n : Nat} {c c' : C} {k : C → OC} {Z : ZQ} {W : XS}
def LcG (tg : Tg) (t : TD) (el : ED) (E0 : Ey) (ys : List Y) (ns : List Nat) (o : OC) (F : List Y → OC → Prop) : Prop := ∃ (o2 cs : OC) (I : List Y → List Y → OC → Prop), Rms o ns o2 cs ∧ I [] [] o2 ∧
  (∀ pre y post acc o, ys = pre ++ y :: post → I pre acc o → ∃ E1, TgY tg y E0 E1 ∧ VT t E1 o (fun k o1 => cnd k (VE el E1 o1 (fun z o2 => acc.length < szl ∧ I (pre ++ [y]) (acc ++ [z]) o2) noq) (I (pre ++ [y]) acc o1)) noq) ∧ ∀ acc o, I ys acc o → F acc (cs ++ o)
theorem lc_run {tg : Tg} {t : TD} {el : ED} {src : List (Nat × List D)} {ns : List Nat} {v : Vw} {h : Hh} {o o2 cs : OC} {E0 : Ey} {e0 : Ev} {I : List Y → List Y → OC → Prop} {all : List Y} {F : List Y → OC → Prop} (s : Sat v o h) (r : Rms o ns o2 cs) (so : SrcOk v h ns src) (re0 : REy v e0 E0)
    (st : ∀ pre y post acc o, all = pre ++ y :: post → I pre acc o → ∃ E1, TgY tg y E0 E1 ∧ VT t E1 o (fun k o1 => cnd k (VE el E1 o1 (fun z o2 => acc.length < szl ∧ I (pre ++ [y]) (acc ++ [z]) o2) noq) (I (pre ++ [y]) acc o1)) noq)
    (en : ∀ acc o, I all acc o → F acc (cs ++ o)) {own : Bool} {Q : Y → OC → Prop} {X : XQ} (hF : ∀ acc o, F acc o → NL own acc o Q) (p : Nat) (hpn : h[p]? = none) :
    ∀ (ds : List D) (pre post : List Y) (v1 : Vw) (o1 : OC) (h1 : Hh) (acc : List Y), all = pre ++ post → RYs v1 ds post → Fr v o2 h v1 o1 h1 → Sat v1 o1 h1 → I pre acc o1 → v1 p = none → p ∉ o1.ks → (∃ das, h1[p]? = some (.lst das) ∧ RYs v1 das acc) →
      PR RY v o h (lcGo src tg t el e0 p ds h1) Q X := by
  have srcok : ∀ {v1 : Vw} {o1 : OC} {h1 : Hh}, Fr v o2 h v1 o1 h1 → Sat v1 o1 h1 → srcOk src h1 := fun {v1 o1 h1} f s1 p hp => by
    rcases so p hp with (q | q) | ⟨q1, q2⟩
    · unfold lstAt; rw [s1.vw _ _ (f.mono _ _ q)]
    · unfold lstAt; rw [s1.vw _ _ (f.mono _ _ q)]
    · obtain ⟨c1, c2, c3⟩ := r.csub
      have := (f.keep _ _ q2 ((c3 s.nd).2 p.1 (c1 ▸ q1))).1
      unfold lstAt; rw [this]
  intro ds
  induction ds with
  | nil =>
    intro pre post v1 o1 h1 acc ea rs f s1 i vp op hp
    cases rs
    obtain ⟨das, hp1, hp2⟩ := hp
    unfold lcGo
    rw [if_pos (srcok f s1)]
    obtain ⟨f', s'⟩ := r.back s f s1
    rw [List.append_nil] at ea
    subst ea
    have q := hF _ _ (en _ _ i)
    have pcs : p ∉ (cs ++ o1).ks := fun z => by
      rcases List.mem_append.mp (by simpa [OC.ks] using z : p ∈ cs.ks ++ o1.ks) with z | z
      · obtain ⟨q, hq, e⟩ := List.mem_map.mp z
        obtain ⟨x, e1, _⟩ := s.oc q (r.csub.2.1 q hq)
        rw [e, hpn] at e1; cases e1
      · exact op z
    cases own with
    | true =>
      refine ⟨v1, (p, .lst acc) :: (cs ++ o1), .own p, ⟨f'.mono, fun n x e hn => ?_⟩, ⟨s'.vw, fun q hq => ?_, List.nodup_cons.mpr ⟨pcs, s'.nd⟩⟩, .own, q p pcs⟩
      · obtain ⟨k1, k2, k3⟩ := f'.keep n x e hn
        refine ⟨k1, k2, fun z => ?_⟩
        rcases List.mem_cons.mp z with z | z
        · subst z; rw [hpn] at e; cases e
        · exact k3 z
      · rcases List.mem_cons.mp hq with hq | hq
        · subst hq; exact ⟨_, hp1, vp, .lst hp2⟩
        · exact s'.oc q hq
    | false =>
      have vl : Vle v1 (fun m => if m = p then some (.lst das) else v1 m) := fun m y e => by
        by_cases z : m = p
        · subst z; rw [vp] at e; cases e
        · simp only [if_neg z]; exact e
      refine ⟨fun m => if m = p then some (.lst das) else v1 m, _, .lst acc, ⟨fun m y e => vl _ _ (f'.mono _ _ e), fun n x e hn => ?_⟩, ⟨fun m y e => ?_, fun q hq => ?_, s'.nd⟩, .lst (if_pos rfl) (hp2.mono vl), q⟩
      · obtain ⟨k1, k2, k3⟩ := f'.keep n x e hn
        refine ⟨k1, ?_, k3⟩
        have : n ≠ p := fun z => by subst z; rw [hpn] at e; cases e
        simp only [if_neg this]; exact k2
      · by_cases z : m = p
        · subst z; simp only [if_pos] at e; cases e; exact hp1
        · simp only [if_neg z] at e; exact s'.vw _ _ e
      · obtain ⟨y, g1, g2, g3⟩ := s'.oc q hq
        have : q.1 ≠ p := fun z => pcs (z ▸ List.mem_map_of_mem (f := (·.1)) hq)
        exact ⟨y, g1, by simp only [if_neg this]; exact g2, g3.mono vl⟩
  | cons d ds ih =>
    intro pre post v1 o1 h1 acc ea rs f s1 i vp op hp
    cases rs with
    | @cons _ y _ post r1 r2 =>
      unfold lcGo
      rw [if_pos (srcok f s1)]
      obtain ⟨E1, tt, b⟩ := st pre y post acc o1 ea i
      obtain ⟨e1, te, re1⟩ := tt v1 d e0 r1 (re0.mono f.mono)
      rw [te]
      simp only
      have b := b v1 e1 h1 re1 s1
      obtain ⟨das, hp1, hp2⟩ := hp
      cases q : t e1 h1 with
      | stuck => rw [q] at b; exact b.elim
      | exc x h2 => rw [q] at b; obtain ⟨_, _, _, _, _, _, z⟩ := b; exact z.elim
      | ok k h2 =>
        rw [q] at b
        obtain ⟨v2, o3, k', f2, s2, ek, c⟩ := b
        subst ek
        obtain ⟨g1, g2, g3⟩ := f2.keep p _ hp1 op
        cases k with
        | false => exact ih (pre ++ [y]) post v2 o3 h2 acc (by rw [List.append_assoc]; exact ea) (r2.mono f2.mono) (f.trans f2) s2 c (g2.trans vp) g3 ⟨das, g1, hp2.mono f2.mono⟩
        | true =>
          have c := c v2 e1 h2 (re1.mono f2.mono) s2
          simp only
          cases q2 : el e1 h2 with
          | stuck => rw [q2] at c; exact c.elim
          | exc x h3 => rw [q2] at c; obtain ⟨_, _, _, _, _, _, z⟩ := c; exact z.elim
          | ok d3 h3 =>
            rw [q2] at c
            obtain ⟨v3, o4, z, f3, s3, rz, hl, i3⟩ := c
            obtain ⟨g4, g5, g6⟩ := f3.keep p _ g1 g3
            simp only
            rw [g4]
            simp only
            have hr := (hp2.mono f2.mono).mono f3.mono
            rw [if_pos (by rw [hr.length]; exact hl)]
            have vp3 : v3 p = none := g5.trans (g2.trans vp)
            have hlp := (List.getElem?_eq_some_iff.mp g4).1
            have fs : Fr v3 o4 h3 v3 o4 (h3.set p (.lst (das ++ [d3]))) ∨ True := .inr trivial
            -- the new list is nobody's
            have s4 : Sat v3 o4 (h3.set p (.lst (das ++ [d3]))) := ⟨fun n x e => by
                have : p ≠ n := fun z => by subst z; rw [vp3] at e; cases e
                rw [List.getElem?_set_ne this]; exact s3.vw _ _ e, fun w hw => by
                obtain ⟨x, e1, e2, e3⟩ := s3.oc w hw
                have : p ≠ w.1 := fun z => g6 (z ▸ List.mem_map_of_mem (f := (·.1)) hw)
                exact ⟨x, by rw [List.getElem?_set_ne this]; exact e1, e2, e3⟩, s3.nd⟩
            have f4 : Fr v o2 h v3 o4 (h3.set p (.lst (das ++ [d3]))) := by
              have f4 := (f.trans f2).trans f3
              refine ⟨f4.mono, fun n x e hn => ?_⟩
              obtain ⟨k1, k2, k3⟩ := f4.keep n x e hn
              have : p ≠ n := fun z => by subst z; rw [hpn] at e; cases e
              exact ⟨by rw [List.getElem?_set_ne this]; exact k1, k2, k3⟩
            exact ih (pre ++ [y]) post v3 o4 _ (acc ++ [z]) (by rw [List.append_assoc]; exact ea) ((r2.mono f2.mono).mono f3.mono) f4 s4 i3 vp3 g6 ⟨_, List.getElem?_set_self hlp, hr.snoc rz⟩
theorem vE_Lc (own : Bool) {it : ID} {tg : Tg} {t : TD} {el : ED} {vs : List Nat} (p : VI it E o (fun ys ns o1 => LcG tg t el (wipeY E vs) ys ns o1 fun acc o => NL own acc o Q) X) : VE (dLc it tg t el vs) E o Q X := fun v e h re s => by
  have p := p v e h re s
  unfold dLc
  cases q : it e h with
  | stuck => rw [q] at p; exact p.elim
  | exc x h1 => rw [q] at p; exact p
  | ok sq h1 =>
    rw [q] at p
    obtain ⟨v1, o1, ys, ns, f1, s1, rs, so, o2, cs, I, rm, i0, st, en⟩ := p
    refine PR.base f1 ?_
    obtain ⟨n1, n2⟩ := s1.new (x := .lst [])
    have s2 : Sat v1 o2 (h1 ++ [.lst []]) := ⟨fun n y e => app_old (s1.vw _ _ e), fun p hp => by
      obtain ⟨y, e1, e2, e3⟩ := s1.oc p (rm.sub.subset hp)
      exact ⟨y, app_old e1, e2, e3⟩, s1.nd.sublist (rm.sub.map _)⟩
    have f2 : Fr v1 o2 h1 v1 o2 (h1 ++ [.lst []]) := ⟨fun _ _ e => e, fun n x e hn => ⟨app_old e, rfl, hn⟩⟩
    exact lc_run s1 rm so ((re.mono f1.mono).wipe vs) st en (fun _ _ q => q) h1.length (by simp) sq.items [] ys v1 o2 _ [] rfl rs f2 s2 i0 n1 (fun z => n2 ((rm.sub.map _).subset z)) ⟨[], app_new, .nil⟩
def Ret (y : Y) (o : OC) (Q : Y → OC → Prop) : Prop := ∀ v h d, RY v d y → Sat v o h → ∃ v' o' y', Fr v o h v' o' h ∧ Sat v' o' h ∧ RY v' d y' ∧ Q y' o'
theorem ret_v (r : o1.Sublist o) (q : Q y o1) : Ret y o Q := fun v h d ry s => ⟨v, o1, y, Fr.less r, s.less r, ry, q⟩
theorem ret_0 (q : Q y []) : Ret y o Q := ret_v (List.nil_sublist _) q
theorem ret_f (a : Rm o n (.lst ys) o1) (q : Ret (.lst ys) o1 Q) : Ret (.own n) o Q := fun v h d ry s => by
  cases ry
  obtain ⟨v', f, s', r⟩ := s.freeze a
  obtain ⟨v2, o2, y2, f2, s2, r2, q2⟩ := q v' h _ r s'
  exact ⟨v2, o2, y2, f.trans f2, s2, r2, q2⟩
def fnK (Q : Y → OC → Prop) : ZQ := fun f _ o => match f with
  | .nx => Ret .non o Q
  | .rt y => Ret y o Q
  | _ => False
theorem fn_nx (q : Ret .non o Q) : fnK Q .nx E o := q
theorem fn_rt (q : Ret y o Q) : fnK Q (.rt y) E o := q
def startY (n : Nat) (ys : List Y) : Ey := ys.map some ++ List.replicate (n - ys.length) none
theorem start_Y {v : Vw} {ds : List D} (r : RYs v ds ys) : REy v (ds.map some ++ List.replicate (n - ds.length) none) (startY n ys) := by
  have hl := r.length
  refine ⟨by unfold startY; simp [hl], fun i y e => ?_⟩
  unfold startY at e
  by_cases hi : i < ys.length
  · rw [List.getElem?_append_left (by rw [List.length_map]; exact hi), List.getElem?_map] at e
    cases q : ys[i]? with
    | none => rw [q] at e; cases e
    | some d' =>
      rw [q] at e
      cases e
      obtain ⟨d, e1, r1⟩ := r.get q
      exact ⟨d, by rw [List.getElem?_append_left (by rw [List.length_map, hl]; exact hi), List.getElem?_map, e1]; rfl, r1⟩
  · rw [List.getElem?_append_right (by rw [List.length_map]; omega), List.getElem?_replicate] at e
    split at e <;> cases e
def RetX (x : Xy) (o : OC) (X : XQ) : Prop := ∃ o1, o1.Sublist o ∧ X x o1
theorem retx {x : Xy} (r : o1.Sublist o) (q : X x o1) : RetX x o X := ⟨o1, r, q⟩
theorem vf_run {b : SD} (p : VS b (startY n ys) o (fnK Q) (fun x _ o => RetX x o X)) : VF (fnRun b n) ys o Q X := fun v ds h r s => by
  have p := p v _ h (start_Y r) s
  unfold fnRun
  cases z : b (ds.map some ++ List.replicate (n - ds.length) none) h with
  | stuck => rw [z] at p; exact p
  | exc x e1 h1 =>
    rw [z] at p
    obtain ⟨v1, o1, E1, y, f1, s1, re1, rx, o3, r3, w⟩ := p
    exact ⟨v1, o3, y, f1.trans (Fr.less r3), s1.less r3, rx, w⟩
  | go fl e1 h1 =>
    rw [z] at p
    cases fl with
    | nx =>
      obtain ⟨v1, o1, E1, f1, s1, re1, q⟩ := p
      obtain ⟨v2, o2, y2, f2, s2, r2, q2⟩ := q v1 h1 .non .non s1
      exact ⟨v2, o2, y2, f1.trans f2, s2, r2, q2⟩
    | rt d =>
      obtain ⟨v1, o1, E1, y, f1, s1, re1, ry, q⟩ := p
      obtain ⟨v2, o2, y2, f2, s2, r2, q2⟩ := q v1 h1 d ry s1
      exact ⟨v2, o2, y2, f1.trans f2, s2, r2, q2⟩
    | bk => obtain ⟨_, _, _, _, _, _, q⟩ := p; exact q.elim
    | ct => obtain ⟨_, _, _, _, _, _, q⟩ := p; exact q.elim
def VP (f : FD) (ys : List Y) (r : Y) : Prop := VF f ys [] (fun y o => y = r ∧ o = []) noq
theorem vp_run {b : SD} {r : Y} (p : VS b (startY n ys) [] (fnK fun y o => y = r ∧ o = []) (fun x _ o => RetX x o noq)) : VP (fnRun b n) ys r := vf_run p
theorem Sat.fr {v v' : Vw} {h h' : Hh} {o0 o1 : OC} (s : Sat v o h) (sub : o0.Sublist o) (e0 : o0 = []) (f : Fr v o0 h v' o1 h') (s' : Sat v' o1 h') : Fr v o h v' (o1 ++ o) h' ∧ Sat v' (o1 ++ o) h' := by
  subst e0
  have kp : ∀ p ∈ o, ∃ x, h'[p.1]? = some x ∧ v' p.1 = none ∧ RC v' x p.2 ∧ p.1 ∉ o1.ks := fun p hp => by
    obtain ⟨x, e1, e2, e3⟩ := s.oc p hp
    obtain ⟨k1, k2, k3⟩ := f.keep _ _ e1 (by simp [OC.ks])
    exact ⟨x, k1, k2.trans e2, e3.mono f.mono, k3⟩
  refine ⟨⟨f.mono, fun n x e hn => ?_⟩, ⟨s'.vw, fun p hp => ?_, ?_⟩⟩
  · obtain ⟨k1, k2, k3⟩ := f.keep n x e (by simp [OC.ks])
    refine ⟨k1, k2, fun z => ?_⟩
    rcases List.mem_append.mp (by simpa [OC.ks] using z : n ∈ o1.ks ++ o.ks) with z | z
    · exact k3 z
    · exact hn z
  · rcases List.mem_append.mp hp with hp | hp
    · exact s'.oc p hp
    · obtain ⟨x, k1, k2, k3, _⟩ := kp p hp
      exact ⟨x, k1, k2, k3⟩
  · have : (o1 ++ o).ks = o1.ks ++ o.ks := by simp [OC.ks]
    show (o1 ++ o).ks.Nodup
    rw [this, List.nodup_append]
    refine ⟨s'.nd, s.nd, fun n hn m hm z => ?_⟩
    subst z
    obtain ⟨p, hp, e⟩ := List.mem_map.mp hm
    exact (kp p hp).choose_spec.2.2.2 (by rw [e]; exact hn)
theorem vc_fr {f : FD} {Q0 : Y → OC → Prop} {X0 : XQ} (p : VF f ys [] Q0 X0) (g : ∀ y o1, Q0 y o1 → Q y (o1 ++ o)) (gx : ∀ y o1, X0 y o1 → X y (o1 ++ o)) : VF f ys o Q X := fun v ds h r s => by
  have p := p v ds h r (s.less (List.nil_sublist _))
  cases z : f ds h with
  | stuck => rw [z] at p; exact p.elim
  | ok d h' =>
    rw [z] at p
    obtain ⟨v', o1, y, f1, s1, r1, q⟩ := p
    obtain ⟨f2, s2⟩ := s.fr (List.nil_sublist _) rfl f1 s1
    exact ⟨v', _, y, f2, s2, r1, g _ _ q⟩
  | exc x h' =>
    rw [z] at p
    obtain ⟨v', o1, y, f1, s1, r1, q⟩ := p
    obtain ⟨f2, s2⟩ := s.fr (List.nil_sublist _) rfl f1 s1
    exact ⟨v', _, y, f2, s2, r1, gx _ _ q⟩
theorem vc_p {f : FD} {r : Y} (p : VP f ys r) (q : Q r o) : VF f ys o Q X := vc_fr p (fun y o1 ⟨e1, e2⟩ => by subst e1; subst e2; exact q) fun _ _ z => z.elim
theorem vc_own {f : FD} {Q0 : Y → OC → Prop} {X0 : XQ} (a : At o n c k) (p : VF f ys [(n, c)] Q0 X0) (g : ∀ y o1, Q0 y o1 → ∃ c', o1 = [(n, c')] ∧ Q y (k c')) (gx : ∀ y o1, X0 y o1 → ∃ c', o1 = [(n, c')] ∧ X y (k c')) : VF f ys o Q X := fun v ds h r s => by
  have s0 : Sat v [(n, c)] h := ⟨s.vw, fun p hp => by rw [List.mem_singleton] at hp; subst hp; exact s.oc _ a.mem, by simp [OC.ks]⟩
  have p := p v ds h r s0
  have key : ∀ {v' : Vw} {h' : Hh} {c' : C}, Fr v [(n, c)] h v' [(n, c')] h' → Sat v' [(n, c')] h' → Fr v o h v' (k c') h' ∧ Sat v' (k c') h' := fun {v' h' c'} f1 s1 => by
    have nk : n ∈ o.ks := List.mem_map_of_mem (f := (·.1)) a.mem
    refine ⟨⟨f1.mono, fun m x e hm => ?_⟩, ⟨s1.vw, fun p hp => ?_, by show (k c').ks.Nodup; rw [a.ks]; exact s.nd⟩⟩
    · obtain ⟨k1, k2, k3⟩ := f1.keep m x e (by simp only [OC.ks, List.map_cons, List.map_nil, List.mem_singleton]; exact fun z => hm (z ▸ nk))
      exact ⟨k1, k2, by show m ∉ (k c').ks; rw [a.ks]; exact hm⟩
    · rcases a.mem' s.nd hp with hp | ⟨hp1, hp2⟩
      · subst hp; exact s1.oc _ (.head _)
      · obtain ⟨x, e1, e2, e3⟩ := s.oc p hp1
        obtain ⟨k1, k2, k3⟩ := f1.keep _ _ e1 (by simp only [OC.ks, List.map_cons, List.map_nil, List.mem_singleton]; exact hp2)
        exact ⟨x, k1, k2.trans e2, e3.mono f1.mono⟩
  cases z : f ds h with
  | stuck => rw [z] at p; exact p.elim
  | ok d h' =>
    rw [z] at p
    obtain ⟨v', o1, y, f1, s1, r1, q⟩ := p
    obtain ⟨c', rfl, q2⟩ := g _ _ q
    obtain ⟨f2, s2⟩ := key f1 s1
    exact ⟨v', _, y, f2, s2, r1, q2⟩
  | exc x h' =>
    rw [z] at p
    obtain ⟨v', o1, y, f1, s1, r1, q⟩ := p
    obtain ⟨c', rfl, q2⟩ := gx _ _ q
    obtain ⟨f2, s2⟩ := key f1 s1
    exact ⟨v', _, y, f2, s2, r1, q2⟩
inductive Fz (n : Nat) (w : Y) : Ey → Ey → Prop
  | nil : Fz n w [] []
  | chg {E E' : Ey} : Fz n w E E' → Fz n w (some (.own n) :: E) (some w :: E')
  | keep {a : Option Y} {E E' : Ey} : Fz n w E E' → Fz n w (a :: E) (a :: E')
theorem Fz.re {E' : Ey} {w : Y} (z : Fz n w E E') {v : Vw} (hr : RY v (.ref n) w) : ∀ {e : Ev}, REy v e E → REy v e E' := by
  induction z with
  | nil => exact fun r => r
  | @chg E E' _ ih =>
    intro e r
    match e, r with
    | [], r => exact absurd r.len (by simp)
    | a :: e, r =>
      have r' : REy v e E := ⟨by simpa using r.len, fun i y h => r.at_ (i + 1) y h⟩
      have r2 := ih r'
      refine ⟨by simpa using r2.len, fun i y h => ?_⟩
      cases i with
      | zero =>
        obtain ⟨d, h1, h2⟩ := r.at_ 0 (.own n) rfl
        cases h2
        cases h
        exact ⟨_, h1, hr⟩
      | succ i => exact r2.at_ i y h
  | @keep a0 E E' _ ih =>
    intro e r
    match e, r with
    | [], r => exact absurd r.len (by simp)
    | a :: e, r =>
      have r' : REy v e E := ⟨by simpa using r.len, fun i y h => r.at_ (i + 1) y h⟩
      have r2 := ih r'
      refine ⟨by simpa using r2.len, fun i y h => ?_⟩
      cases i with
      | zero => exact r.at_ 0 y h
      | succ i => exact r2.at_ i y h
theorem vs_freeze {b : SD} {E' : Ey} (a : Rm o n (.lst ys) o1) (z : Fz n (.lst ys) E E') (p : VS b E' o1 Z W) : VS b E o Z W := fun v e h re s => by
  obtain ⟨v', f, s', r⟩ := s.freeze a
  exact PSR.base f (p v' e h (z.re r (re.mono f.mono)) s')
theorem vs_drop {b : SD} (r : o1.Sublist o) (p : VS b E o1 Z W) : VS b E o Z W := fun v e h re s => PSR.base (Fr.less r) (p v e h re (s.less r))
theorem for_map {α : Type} {tg : Tg} {body : SD} {xs : List α} {enc : α → Y} (I : List α → Ey → OC → Prop) (i0 : I [] E o)
    (st : ∀ pre x post E o, xs = pre ++ x :: post → I pre E o → ∃ E1, TgY tg (enc x) E E1 ∧ VS body E1 o (loopZ (I (pre ++ [x])) [] Z) W) (en : ∀ E o, I xs E o → Z .nx E o) : ForG tg body (xs.map enc) [] E o Z W :=
  ⟨o, [], fun ys E o => ∃ pre, ys = pre.map enc ∧ I pre E o ∧ ∃ post, xs = pre ++ post, .nil, ⟨[], rfl, i0, xs, rfl⟩, fun pre y post E o e ⟨pre', e1, i, post', e2⟩ => by
    subst e1
    rw [e2, List.map_append] at e
    have e := List.append_cancel_left e
    cases post' with
    | nil => cases e
    | cons x post' =>
      cases e
      obtain ⟨E1, t, b⟩ := st pre' x post' E o e2 i
      refine ⟨E1, t, b.mono (fun l E o q => ?_) fun _ _ _ q => q⟩
      cases l with
      | nx => exact ⟨pre' ++ [x], by simp, q, post', by rw [e2]; simp⟩
      | ct => exact ⟨pre' ++ [x], by simp, q, post', by rw [e2]; simp⟩
      | bk => exact q
      | rt y => exact q, fun E o ⟨pre, e1, i, post, e2⟩ => by
    have : post = [] := by
      have := congrArg List.length e1
      rw [e2] at this
      simp at this
      exact this
    subst this
    rw [List.append_nil] at e2
    subst e2
    exact en E o i⟩
theorem for_rng {tg : Tg} {body : SD} {lo : Int} {m : Nat} (I : Nat → Ey → OC → Prop) (i0 : I 0 E o)
    (st : ∀ t E o, t < m → I t E o → ∃ E1, TgY tg (.int (lo + t)) E E1 ∧ VS body E1 o (loopZ (I (t + 1)) [] Z) W) (en : ∀ E o, I m E o → Z .nx E o) : ForG tg body (rngY lo m) [] E o Z W := by
  refine for_map (fun pre E o => pre = List.range pre.length ∧ I pre.length E o) ⟨rfl, i0⟩ (fun pre x post E o e ⟨h1, i⟩ => ?_) fun E o ⟨h1, i⟩ => ?_
  · have hl := congrArg List.length e
    simp at hl
    have hx : x = pre.length := by
      have h2 : (List.range m)[pre.length]? = some x := by rw [e]; simp
      rw [List.getElem?_range (by omega)] at h2
      exact (Option.some.inj h2).symm
    subst hx
    obtain ⟨E1, t, b⟩ := st pre.length E o (by omega) i
    have hp : pre ++ [pre.length] = List.range (pre ++ [pre.length]).length := by
      rw [List.length_append, List.length_singleton, List.range_succ, ← h1]
    refine ⟨E1, t, b.mono (fun l E o q => ?_) fun _ _ _ q => q⟩
    cases l with
    | nx => exact ⟨hp, by rw [List.length_append, List.length_singleton]; exact q⟩
    | ct => exact ⟨hp, by rw [List.length_append, List.length_singleton]; exact q⟩
    | bk => exact q
    | rt y => exact q
  · rw [List.length_range] at i
    exact en E o i
theorem lc_map {α : Type} {tg : Tg} {el : ED} {xs : List α} {enc f : α → Y} {E0 : Ey} {F : List Y → OC → Prop} (hl : xs.length ≤ szl)
    (st : ∀ x ∈ xs, ∃ E1, TgY tg (enc x) E0 E1 ∧ VE el E1 o (fun z o2 => z = f x ∧ o2 = o) noq) (en : F (xs.map f) o) : LcG tg tY el E0 (xs.map enc) [] o F :=
  ⟨o, [], fun pre acc o' => o' = o ∧ ∃ p post, xs = p ++ post ∧ pre = p.map enc ∧ acc = p.map f, .nil, ⟨rfl, [], xs, rfl, rfl, rfl⟩, fun pre y post acc o' e ⟨eo, p, q, e1, e2, e3⟩ => by
    subst eo; subst e2; subst e3
    rw [e1, List.map_append] at e
    have e := List.append_cancel_left e
    cases q with
    | nil => cases e
    | cons x q =>
      cases e
      obtain ⟨E1, t, b⟩ := st x (by rw [e1]; simp)
      refine ⟨E1, t, vT_Y (b.mono (fun z o2 ⟨h1, h2⟩ => ?_) fun _ _ q => q)⟩
      subst h1; subst h2
      refine ⟨?_, rfl, p ++ [x], q, by rw [e1]; simp, by simp, by simp⟩
      have := congrArg List.length e1
      simp at this
      rw [List.length_map]
      omega, fun acc o' ⟨eo, p, q, e1, e2, e3⟩ => by
    subst eo
    have : q = [] := by
      have := congrArg List.length e2
      rw [e1] at this
      simp at this
      exact this
    subst this
    rw [List.append_nil] at e1
    subst e1
    subst e3
    exact en⟩
end
end Mn
namespace Mn
open PySem
def cutY (ys : List Y) (lo hi : Option Int) : List Y := (ys.drop (HT.sIx ys.length 0 lo)).take (HT.sIx ys.length ys.length hi - HT.sIx ys.length 0 lo)
theorem cutY_to {ys : List Y} {k : Nat} : cutY ys none (some (k : Int)) = ys.take k := by
  unfold cutY
  rw [HT.sIx_nat, HT.sIx_none, List.drop_zero, Nat.sub_zero, List.take_eq_take_iff]
  omega
theorem cutY_from {ys : List Y} {k : Nat} : cutY ys (some (k : Int)) none = ys.drop k := by
  unfold cutY
  rw [HT.sIx_nat, HT.sIx_none]
  by_cases h : k ≤ ys.length
  · rw [Nat.min_eq_left h, List.take_of_length_le (by rw [List.length_drop]; omega)]
  · rw [Nat.min_eq_right (by omega), List.drop_length, List.take_nil, List.drop_of_length_le (by omega)]
theorem RYs.cut {v : Vw} {ds : List D} {ys : List Y} (lo hi : Option Int) (r : RYs v ds ys) : RYs v (cutD ds lo hi) (cutY ys lo hi) := by
  unfold cutD cutY
  rw [r.length]
  exact (r.drop _).take _
theorem RYs.erase {v : Vw} : ∀ {ds : List D} {ys : List Y} (j : Nat), RYs v ds ys → RYs v (ds.eraseIdx j) (ys.eraseIdx j)
  | _, _, _, .nil => .nil
  | _, _, 0, .cons _ r => r
  | _, _, j + 1, .cons a r => .cons a (RYs.erase j r)
section
variable {E E1 : Ey} {o o1 o2 : OC} {Q Q' : Y → OC → Prop} {X X' : XQ} {i j : Int} {x y z : Y} {ys zs : List Y} {s s' : Str} {n : Nat} {c c' : C} {k : C → OC} {a b : ED}
def VOp (f : OD) (E : Ey) (o : OC) (Q : Option Int → OC → Prop) (X : XQ) : Prop := ∀ v e h, REy v e E → Sat v o h → PR (fun _ a b => a = b) v o h (f e h) Q X
def VSl (x : Y) (l u : Option Int) (o : OC) (Q : Y → OC → Prop) (X : XQ) : Prop := ∀ v d h, RY v d x → Sat v o h → PR RY v o h (slD d l u h) Q X
theorem vO_N {Q : Option Int → OC → Prop} (q : Q none o) : VOp oN E o Q X := fun v e h re s => PR.ok s rfl q
def OSK (Q : Option Int → OC → Prop) (x : Y) (o : OC) : Prop := ∃ i, x = .int i ∧ Q (some i) o
theorem os_i {i : Int} {Q : Option Int → OC → Prop} (q : Q (some i) o) : OSK Q (.int i) o := ⟨i, rfl, q⟩
theorem vO_S {Q : Option Int → OC → Prop} (p : VE a E o (OSK Q) X) : VOp (oS a) E o Q X := fun v e h re s =>
  (p v e h re s).bind fun v1 o1 h1 d y f1 s1 r1 p1 => by
    obtain ⟨i, e1, q⟩ := p1
    subst e1
    cases r1
    exact PR.ok s1 rfl q
theorem vE_Sl {lo hi : OD} (p : VE a E o (fun x o1 => VOp lo E o1 (fun l o2 => VOp hi E o2 (fun u o3 => VSl x l u o3 Q X) X) X) X) : VE (dSl a lo hi) E o Q X := fun v e h re s =>
  (p v e h re s).bind fun v1 o1 h1 d y f1 s1 r1 p1 => (p1 v1 e h1 (re.mono f1.mono) s1).bind fun v2 o2 h2 l l' f2 s2 r2 p2 => (p2 v2 e h2 ((re.mono f1.mono).mono f2.mono) s2).bind fun v3 o3 h3 u u' f3 s3 r3 p3 => by
    subst r2; subst r3
    exact p3 v3 d h3 ((r1.mono f2.mono).mono f3.mono) s3
theorem sl_l (own : Bool) {l u : Option Int} (hl : Ls o x ys) (q : NL own (cutY ys l u) o Q) : VSl x l u o Q X := fun v d h r s => by
  obtain ⟨n, ds, rfl, e1, rs⟩ := hl.get s r
  show PR RY v o h (match lstAt h n with | some xs => _ | none => _) Q X
  rw [e1]
  exact q.out s (rs.cut l u)
theorem sl_t {l u : Option Int} (q : Q (.tup (cutY ys l u)) o) : VSl (.tup ys) l u o Q X := fun v d h r s => by
  cases r with
  | tup rs => exact PR.ok s (.tup (rs.cut l u)) q
theorem m_popAt' {j : Nat} (a : At o n (.lst ys) k) (hb : -(2 ^ 63) ≤ i ∧ i < 2 ^ 63) (hi : L2.ixN ys.length i = some j) (hl : ys[j]? = some y) (q : Q y (k (.lst (ys.eraseIdx j)))) : VM mPopAt (.own n) [.int i] o Q X := fun v d ds h r rs s => by
  cases r
  cases rs with
  | cons r1 r2 =>
    cases r2
    cases r1
    obtain ⟨xs, e, rx⟩ := s.own a
    obtain ⟨d, e1, r1⟩ := rx.get hl
    obtain ⟨f, s'⟩ := s.put a (RC.lst (rx.erase j))
    dsimp only [mPopAt]
    rw [e]
    simp only
    rw [if_pos hb, rx.length, hi]
    simp only
    rw [e1]
    exact ⟨v, _, _, f, s', r1, q⟩
theorem f_lrev (own : Bool) (l : Ls o x ys) (q : NL own ys.reverse o Q) : VF fLRev [x] o Q X := fun v ds h r s => by
  cases r with
  | cons r1 r2 =>
    cases r2
    obtain ⟨n, ds, rfl, e1, rs⟩ := l.get s r1
    show PR RY v o h (match lstAt h n with | some xs => _ | none => _) Q X
    rw [e1]
    exact q.out s rs.reverse
theorem f_lrng1 (own : Bool) {m : Nat} (hm : m < 16777216) (q : NL own (rngY 0 m) o Q) : VF fLRng [.int (m : Int)] o Q X := fun v ds h r s => by
  cases r with
  | cons r1 r2 =>
    cases r2
    cases r1
    dsimp only [fLRng, List.cons_append, List.nil_append]
    rw [if_pos ⟨by omega, Int.ofNat_lt.mpr hm⟩, Int.toNat_natCast]
    exact q.out s rng_Y
variable {Z : ZQ} {W : XS}
end
end Mn
namespace Mn
open PySem
section
variable {E E1 : Ey} {o : OC} {Z : ZQ} {W : XS} {tg : Tg} {body : SD} {ys : List Y}
theorem for_ix (I : Nat → Ey → OC → Prop) (i0 : I 0 E o) (st : ∀ t (h : t < ys.length) E o, I t E o → ∃ E1, TgY tg ys[t] E E1 ∧ VS body E1 o (loopZ (I (t + 1)) [] Z) W) (en : ∀ E o, I ys.length E o → Z .nx E o) : ForG tg body ys [] E o Z W :=
  ⟨o, [], fun pre => I pre.length, .nil, i0, fun pre y post E o e i => by
    have h : pre.length < ys.length := by rw [e]; simp
    obtain ⟨E1, t, b⟩ := st pre.length h E o i
    have ey : ys[pre.length] = y := by
      have : ys[pre.length]? = some y := by rw [e]; simp
      rw [List.getElem?_eq_getElem h] at this
      exact Option.some.inj this
    rw [ey] at t
    refine ⟨E1, t, ?_⟩
    show VS body E1 o (loopZ (I (pre ++ [y]).length) [] Z) W
    rw [List.length_append, List.length_singleton]
    exact b, en⟩
theorem for_mapI {α : Type} {xs : List α} {enc : α → Y} (I : Nat → Ey → OC → Prop) (i0 : I 0 E o) (st : ∀ t (h : t < xs.length) E o, I t E o → ∃ E1, TgY tg (enc xs[t]) E E1 ∧ VS body E1 o (loopZ (I (t + 1)) [] Z) W) (en : ∀ E o, I xs.length E o → Z .nx E o) : ForG tg body (xs.map enc) [] E o Z W :=
  for_ix I i0 (fun t h E o i => by rw [List.getElem_map]; exact st t (by simpa using h) E o i) (by rw [List.length_map]; exact en)
theorem for_enumI {α : Type} {xs : List α} {enc : α → Y} (I : Nat → Ey → OC → Prop) (i0 : I 0 E o) (st : ∀ t (h : t < xs.length) E o, I t E o → ∃ E1, TgY tg (.tup [.int (t : Nat), enc xs[t]]) E E1 ∧ VS body E1 o (loopZ (I (t + 1)) [] Z) W) (en : ∀ E o, I xs.length E o → Z .nx E o) : ForG tg body ((xs.map enc).zipIdx.map fun p => .tup [.int (p.2 : Nat), p.1]) [] E o Z W :=
  for_ix I i0 (fun t h E o i => by
    have h' : t < xs.length := by simpa using h
    obtain ⟨E1, q, b⟩ := st t h' E o i
    refine ⟨E1, ?_, b⟩
    rw [List.getElem_map, List.getElem_zipIdx]
    simpa using q) (by rw [List.length_map, List.length_zipIdx, List.length_map]; exact en)
end
end Mn
namespace Mn
open PySem
section
variable {E0 : Ey} {o : OC} {tg : Tg} {t : TD} {el : ED} {ys : List Y} {F : List Y → OC → Prop}
theorem lc_ix (I : Nat → List Y → OC → Prop) (hl : ys.length ≤ szl) (i0 : I 0 [] o)
    (st : ∀ i (h : i < ys.length) acc o, acc.length ≤ i → I i acc o → ∃ E1, TgY tg ys[i] E0 E1 ∧ VT t E1 o (fun k o1 => cnd k (VE el E1 o1 (fun z o2 => I (i + 1) (acc ++ [z]) o2) noq) (I (i + 1) acc o1)) noq)
    (en : ∀ acc o, I ys.length acc o → F acc o) : LcG tg t el E0 ys [] o F :=
  ⟨o, [], fun pre acc o' => acc.length ≤ pre.length ∧ I pre.length acc o', .nil, ⟨Nat.le_refl _, i0⟩, fun pre y post acc o' e ⟨hc, i⟩ => by
    have h : pre.length < ys.length := by rw [e]; simp
    obtain ⟨E1, tt, b⟩ := st pre.length h acc o' hc i
    have ey : ys[pre.length] = y := by
      have : ys[pre.length]? = some y := by rw [e]; simp
      rw [List.getElem?_eq_getElem h] at this
      exact Option.some.inj this
    rw [ey] at tt
    refine ⟨E1, tt, fun v e h' re s => (b v e h' re s).mono (fun k o2 q => ?_) fun _ _ q => q⟩
    cases k with
    | true =>
      refine VE.mono q (fun z o3 q3 => ?_) fun _ _ q => q
      exact ⟨by omega, by rw [List.length_append, List.length_append]; simpa using hc, by rw [List.length_append]; exact q3⟩
    | false => exact ⟨by rw [List.length_append]; omega, by rw [List.length_append]; exact q⟩, fun acc o' ⟨_, i⟩ => en acc o' i⟩
end
end Mn
namespace Mn
open PySem
theorem RFs.look {v : Vw} {f : Nat} {y : Y} : ∀ {ds : List (Nat × D)} {fs : List (Nat × Y)}, RFs v ds fs → fs.lookup f = some y → ∃ d, ds.lookup f = some d ∧ RY v d y
  | _, _, .nil, h => by cases h
  | (n, d) :: ds, (_, z) :: fs, .cons a r, h => by
    rw [List.lookup_cons] at h ⊢
    cases hb : f == n with
    | true => rw [hb] at h; cases h; exact ⟨d, rfl, a⟩
    | false => rw [hb] at h; exact RFs.look r h
theorem RFs.put {v : Vw} {f : Nat} {d : D} {y : Y} (q : RY v d y) : ∀ {ds : List (Nat × D)} {fs : List (Nat × Y)}, RFs v ds fs → RFs v (putA f d ds) (putA f y fs)
  | _, _, .nil => .cons q .nil
  | (n, d') :: ds, (_, z) :: fs, .cons a r => by
    unfold putA
    by_cases e : n = f
    · rw [if_pos e, if_pos e]; exact .cons q r
    · rw [if_neg e, if_neg e]; exact .cons a (RFs.put q r)
theorem RFs.len {v : Vw} : ∀ {ds : List (Nat × D)} {fs : List (Nat × Y)}, RFs v ds fs → ds.length = fs.length
  | _, _, .nil => rfl
  | _, _, .cons _ r => congrArg Nat.succ (RFs.len r)
section
variable {E E' : Ey} {o o1 : OC} {Q : Y → OC → Prop} {X : XQ} {a b : ED} {as ks : AD} {f : FD} {Z : ZQ} {W : XS} {c n fd : Nat} {fs : List (Nat × Y)} {k : C → OC} {y x z w : Y} {ys : List Y}
inductive Is (o : OC) : Y → Nat → List (Nat × Y) → Prop
  | ins (c : Nat) (fs : List (Nat × Y)) : Is o (.ins c fs) c fs
  | own {n c : Nat} {fs : List (Nat × Y)} {k : C → OC} : At o n (.ins c fs) k → Is o (.own n) c fs
theorem Is.get (l : Is o y c fs) {v : Vw} {h : Hh} (s : Sat v o h) {d : D} (r : RY v d y) : ∃ ds, insAt h d = some (c, ds) ∧ RFs v ds fs := by
  cases l with
  | ins c fs =>
    cases r with
    | ins e q => exact ⟨_, insAt_eq (s.vw _ _ e), q⟩
  | own a =>
    cases r with
    | own =>
      obtain ⟨x, e, _, rc⟩ := s.oc _ a.mem
      cases rc with
      | ins q => exact ⟨_, insAt_eq e, q⟩
theorem Sat.ownI {v : Vw} {h : Hh} (s : Sat v o h) (a : At o n (.ins c fs) k) : ∃ ds, h[n]? = some (.ins c ds) ∧ RFs v ds fs := by
  obtain ⟨x, e, _, rc⟩ := s.oc _ a.mem
  cases rc with
  | ins q => exact ⟨_, e, q⟩
theorem vE_Fld (p : VE a E o (fun x o1 => VO (fldD fd) x o1 Q X) X) : VE (dFld fd a) E o Q X := fun v e h re s =>
  (p v e h re s).bind fun v1 o1 h1 d y f1 s1 r1 p1 => p1 v1 d h1 r1 s1
theorem fl_is (l : Is o x c fs) (h : fs.lookup fd = some y) (q : Q y o) : VO (fldD fd) x o Q X := fun v d h' r s => by
  obtain ⟨ds, e, rf⟩ := l.get s r
  obtain ⟨d', e2, r2⟩ := rf.look h
  unfold fldD
  rw [e]
  simp only [e2]
  exact PR.ok s r2 q
def VPut (na : Nat → List Nat) (f : Nat) (x y : Y) (o : OC) (J : OC → Prop) : Prop := ∃ n c fs k, x = .own n ∧ At o n (.ins c fs) k ∧ (na c).elem f = true ∧ fs.length < 900 ∧ J (k (.ins c (putA f y fs)))
theorem pt_own {na : Nat → List Nat} {J : OC → Prop} (at_ : At o n (.ins c fs) k) (hn : (na c).elem fd = true) (hl : fs.length < 900) (q : J (k (.ins c (putA fd y fs)))) : VPut na fd (.own n) y o J := ⟨n, c, fs, k, rfl, at_, hn, hl, q⟩
theorem VPut.run {na : Nat → List Nat} {J : OC → Prop} (p : VPut na fd x y o J) {v : Vw} {h : Hh} {dx dy : D} (s : Sat v o h) (rx : RY v dx x) (ry : RY v dy y) : ∃ o' h', putD na fd dx dy h = .ok () h' ∧ Fr v o h v o' h' ∧ Sat v o' h' ∧ J o' := by
  obtain ⟨n, c, fs, k, rfl, at_, hn, hl, q⟩ := p
  cases rx
  obtain ⟨ds, e, rf⟩ := s.ownI at_
  obtain ⟨f1, s1⟩ := s.put at_ (RC.ins (c := c) (rf.put (f := fd) ry))
  refine ⟨_, _, ?_, f1, s1, q⟩
  unfold putD
  simp only [e]
  rw [if_pos ⟨hn, by rw [rf.len]; exact hl⟩]
theorem vs_fl {na : Nat → List Nat} (p : VE a E o (fun y o1 => VE b E o1 (fun x o2 => VPut na fd x y o2 (fun o3 => Z .nx E o3)) (xe W E)) (xe W E)) : VS (sFl na fd b a) E o Z W := fun v e h re s =>
  PR.toS re (p v e h re s) fun v1 o1 h1 d y f1 s1 r1 p1 => PR.toS (re.mono f1.mono) (p1 v1 e h1 (re.mono f1.mono) s1) fun v2 o2 h2 d2 x f2 s2 r2 p2 => by
    obtain ⟨o3, h3, e3, f3, s3, q⟩ := p2.run s2 r2 (r1.mono f2.mono)
    rw [e3]
    exact ⟨v2, o3, E, f3, s3, (re.mono f1.mono).mono f2.mono, q⟩
theorem Sat.freezeI {v : Vw} {o o' : OC} {h : Hh} {n : Nat} (s : Sat v o h) (a : Rm o n (.ins c fs) o') : ∃ v', Fr v o h v' o' h ∧ Sat v' o' h ∧ RY v' (.ref n) (.ins c fs) := by
  obtain ⟨x, h1, h2, h3⟩ := s.oc _ a.mem
  cases h3 with
  | @ins c ds _ r =>
    have vl : Vle v (fun m => if m = n then some (.ins c ds) else v m) := fun m y e => by
      by_cases z : m = n
      · subst z; rw [h2] at e; cases e
      · simp only [if_neg z]; exact e
    have hks : ∀ m, m ∈ o'.ks → m ∈ o.ks := fun m hm => (a.sub.map _).subset hm
    refine ⟨fun m => if m = n then some (.ins c ds) else v m, ⟨vl, fun m y e k' => ⟨e, if_neg (fun z => k' ?_), fun z => k' (hks _ z)⟩⟩, ⟨fun m y e => ?_, fun p hp => ?_, ?_⟩, .ins (if_pos rfl) (r.mono vl)⟩
    · subst z; exact List.mem_map_of_mem (f := (·.1)) a.mem
    · by_cases z : m = n
      · subst z; simp only [if_pos] at e; cases e; exact h1
      · simp only [if_neg z] at e; exact s.vw _ _ e
    · obtain ⟨y, g1, g2, g3⟩ := s.oc p (a.sub.subset hp)
      have hp2 : p.1 ≠ n := fun z => a.ne s.nd (z ▸ List.mem_map_of_mem (f := (·.1)) hp)
      exact ⟨y, g1, by simp only [if_neg hp2]; exact g2, g3.mono vl⟩
    · exact s.nd.sublist (a.sub.map _)
def VNew (c : Nat) (f : FD) (as : Nat → List Y) (o : OC) (Q : Y → OC → Prop) (X : XQ) : Prop := ∀ n, n ∉ o.ks → VF f (as n) ((n, .ins c []) :: o) (fun r o2 => r = .non ∧ (Q (.own n) o2 ∨ ∃ fs o3, Rm o2 n (.ins c fs) o3 ∧ Q (.ins c fs) o3)) X
theorem VNew.run {as : Nat → List Y} {g : Nat → List D} (p : VNew c f as o Q X) {v : Vw} {h : Hh} (s : Sat v o h) (ra : ∀ n, RYs v (g n) (as n)) : PR RY v o h ((f (g h.length) (h ++ [.ins c []])).bind fun r h2 => match r with
      | .non => .ok (.ref h.length) h2
      | _ => .stuck) Q X := by
  obtain ⟨f1, s1⟩ := s.nw (RC.ins (c := c) (v := v) .nil)
  refine PR.base f1 ?_
  refine (p h.length (s.new (x := .ins c [])).2 v (g h.length) _ (ra _) s1).bind fun v2 o2 h2 d r f2 s2 r2 q => ?_
  obtain ⟨rfl, q⟩ := q
  cases r2
  rcases q with q | ⟨fs, o3, rm, q⟩
  · exact PR.ok s2 .own q
  · obtain ⟨v3, f3, s3, r3⟩ := s2.freezeI rm
    exact ⟨v3, o3, _, f3, s3, r3, q⟩
theorem gKP_rys {v : Vw} {us mv ws : List D} {vs nv zs : List Y} (r1 : RYs v us vs) (r2 : RYs v mv nv) (r3 : RYs v ws zs) : ∀ kp : List KP, RYs v (gKP kp us mv ws) (gKP kp vs nv zs) := by
  have one : ∀ {as : List D} {bs : List Y}, RYs v as bs → ∀ i : Nat, (as[i]? = none ∧ bs[i]? = none) ∨ ∃ d y, as[i]? = some d ∧ bs[i]? = some y ∧ RY v d y := fun {as bs} r i => by
    cases e : bs[i]? with
    | none =>
      refine .inl ⟨?_, rfl⟩
      have := List.getElem?_eq_none_iff.mp e
      exact List.getElem?_eq_none (by rw [r.length]; exact this)
    | some d =>
      obtain ⟨y, h1, h2⟩ := r.get e
      exact .inr ⟨y, d, h1, rfl, h2⟩
  intro kp
  induction kp with
  | nil => exact .nil
  | cons q kp ih =>
    unfold gKP at ih ⊢
    rw [List.filterMap_cons, List.filterMap_cons]
    have key : (KP.gt us mv ws q = none ∧ KP.gt vs nv zs q = none) ∨ ∃ d y, KP.gt us mv ws q = some d ∧ KP.gt vs nv zs q = some y ∧ RY v d y := by
      cases q with
      | p i => exact one r1 i
      | k i => exact one r3 i
      | c i => exact one r2 i
    rcases key with ⟨e1, e2⟩ | ⟨d, y, e1, e2, r⟩
    · rw [e1, e2]; exact ih
    · rw [e1, e2]; exact .cons r ih
theorem vE_MkK {kp : List KP} {cs : List D} {ws : List Y} (rw : ∀ v, RYs v cs ws) (p : VA as E o (fun ys o1 => VA ks E o1 (fun zs o2 => VNew c f (fun n => gKP kp (.own n :: ys) ws zs) o2 Q X) X) X) : VE (dMkK c f kp cs as ks) E o Q X := fun v e h re s =>
  (p v e h re s).bind fun v1 o1 h1 ds ys f1 s1 r1 p1 => (p1 v1 e h1 (re.mono f1.mono) s1).bind fun v2 o2 h2 es zs f2 s2 r2 p2 =>
    p2.run (g := fun n => gKP kp (.ref n :: ds) cs es) s2 fun n => gKP_rys (.cons .own (r1.mono f2.mono)) (rw v2) r2 kp
theorem rfs_zip {v : Vw} : ∀ {fs : List Nat} {ds : List D} {ys : List Y}, RYs v ds ys → RFs v (fs.zip ds) (fs.zip ys)
  | [], _, _, _ => by simp; exact .nil
  | f :: fs, _, _, .nil => by simp; exact .nil
  | f :: fs, _, _, .cons a r => .cons a (rfs_zip r)
theorem RFs.app {v : Vw} : ∀ {ds es : List (Nat × D)} {fs gs : List (Nat × Y)}, RFs v ds fs → RFs v es gs → RFs v (ds ++ es) (fs ++ gs)
  | _, _, _, _, .nil, s => s
  | _, _, _, _, .cons a r, s => .cons a (RFs.app r s)
theorem RFs.rev {v : Vw} : ∀ {ds : List (Nat × D)} {fs : List (Nat × Y)}, RFs v ds fs → RFs v ds.reverse fs.reverse
  | _, _, .nil => .nil
  | _, _, .cons a r => by rw [List.reverse_cons, List.reverse_cons]; exact (RFs.rev r).app (.cons a .nil)
theorem vs_raiseA {nf : List Nat} (p : VA as E o (fun ys o1 => ys.length = nf.length ∧ W ⟨c, (nf.zip ys).reverse⟩ E o1) (xe W E)) : VS (sRaiseA c nf as) E o Z W := fun v e h re s =>
  PR.toS re (p v e h re s) fun v1 o1 h1 ds ys f1 s1 r1 p1 => by
    rw [if_pos (by rw [r1.length]; exact p1.1)]
    exact ⟨v1, o1, E, _, Fr.refl _ _ _, s1, re.mono f1.mono, ⟨rfl, (rfs_zip r1).rev⟩, p1.2⟩
end
mutual
def dOf : Y → Option D
  | .non => some .non
  | .bl b => some (.bl b)
  | .int i => some (.int i)
  | .str s => some (.str s)
  | .tup ys => (dOfs ys).map .tup
  | _ => none
def dOfs : List Y → Option (List D)
  | [] => some []
  | y :: ys => match dOf y, dOfs ys with
    | some d, some ds => some (d :: ds)
    | _, _ => none
end
mutual
theorem dOf_eq {v : Vw} : ∀ {y : Y} {d d' : D}, dOf y = some d → RY v d' y → d' = d
  | .non, _, _, h, r => by cases h; cases r; rfl
  | .bl _, _, _, h, r => by cases h; cases r; rfl
  | .int _, _, _, h, r => by cases h; cases r; rfl
  | .str _, _, _, h, r => by cases h; cases r; rfl
  | .tup ys, _, _, h, r => by
    cases r with
    | tup r =>
      change (dOfs ys).map D.tup = _ at h
      obtain ⟨ds, h1, h2⟩ := Option.map_eq_some_iff.mp h
      subst h2
      rw [dOfs_eq h1 r]
  | .lst _, _, _, h, _ => by cases h
  | .ins _ _, _, _, h, _ => by cases h
  | .own _, _, _, h, _ => by cases h
  | .frz _, _, _, h, _ => by cases h
theorem dOfs_eq {v : Vw} : ∀ {ys : List Y} {ds ds' : List D}, dOfs ys = some ds → RYs v ds' ys → ds' = ds
  | [], _, _, h, r => by cases h; cases r; rfl
  | y :: ys, ds, _, h, r => by
    cases r with
    | cons a r =>
      change (match dOf y, dOfs ys with | some d, some ds => some (d :: ds) | _, _ => none) = some ds at h
      split at h
      · rename_i d ds' h1 h2
        cases h
        rw [dOf_eq h1 a, dOfs_eq h2 r]
      · cases h
end
def dOfF : List (Nat × Y) → Option (List (Nat × D))
  | [] => some []
  | (n, y) :: r => match dOf y, dOfF r with
    | some d, some ds => some ((n, d) :: ds)
    | _, _ => none
theorem dOfF_eq {v : Vw} : ∀ {fs : List (Nat × Y)} {ds ds' : List (Nat × D)}, dOfF fs = some ds → RFs v ds' fs → ds' = ds
  | [], _, _, h, r => by cases h; cases r; rfl
  | (n, y) :: fs, ds, _, h, r => by
    cases r with
    | cons a r =>
      change (match dOf y, dOfF fs with | some d, some ds => some ((n, d) :: ds) | _, _ => none) = some ds at h
      split at h
      · rename_i d ds' h1 h2
        cases h
        rw [dOf_eq h1 a, dOfF_eq h2 r]
      · cases h
mutual
theorem dOf_ry {v : Vw} : ∀ {y : Y} {d : D}, dOf y = some d → RY v d y
  | .non, _, h => by cases h; exact .non
  | .bl _, _, h => by cases h; exact .bl _
  | .int _, _, h => by cases h; exact .int _
  | .str _, _, h => by cases h; exact .str _
  | .tup ys, _, h => by
    change (dOfs ys).map D.tup = _ at h
    obtain ⟨ds, h1, h2⟩ := Option.map_eq_some_iff.mp h
    subst h2
    exact .tup (dOfs_ry h1)
  | .lst _, _, h => by cases h
  | .ins _ _, _, h => by cases h
  | .own _, _, h => by cases h
  | .frz _, _, h => by cases h
theorem dOfs_ry {v : Vw} : ∀ {ys : List Y} {ds : List D}, dOfs ys = some ds → RYs v ds ys
  | [], _, h => by cases h; exact .nil
  | y :: ys, ds, h => by
    change (match dOf y, dOfs ys with | some d, some ds => some (d :: ds) | _, _ => none) = some ds at h
    split at h
    · rename_i d ds' h1 h2
      cases h
      exact .cons (dOf_ry h1) (dOfs_ry h2)
    · cases h
end
section
variable {E : Ey} {o : OC} {Q : Y → OC → Prop} {X : XQ}
theorem dOfF_look {fs : List (Nat × Y)} {i : Nat} {y : Y} : ∀ {fs : List (Nat × Y)} {ds : List (Nat × D)}, dOfF fs = some ds → fs.lookup i = some y → ∃ d, ds.lookup i = some d ∧ dOf y = some d
  | [], _, h, l => by cases l
  | (n, z) :: fs, ds, h, l => by
    change (match dOf z, dOfF fs with | some d, some ds => some ((n, d) :: ds) | _, _ => none) = some ds at h
    split at h
    · rename_i d ds' h1 h2
      cases h
      rw [List.lookup_cons] at l ⊢
      cases hb : i == n with
      | true => rw [hb] at l; cases l; exact ⟨d, rfl, h1⟩
      | false => rw [hb] at l; exact dOfF_look (fs := []) h2 l
    · cases h
theorem vE_isX {t : Nat → Nat → Option Bool} {a c : Nat} {k : Bool} {ds : List (Nat × D)} (h : t a c = some k) (q : Q (.bl k) o) : VE (isX t ⟨a, ds⟩ c) E o Q X := by
  unfold isX
  simp only [h]
  exact vE_c (fun _ => .bl _) q
theorem vE_Xf {xa : Nat → List Nat} {a i : Nat} {fs : List (Nat × Y)} {ds : List (Nat × D)} {y : Y} (hd : dOfF fs = some ds) (h : (xa a).elem i = true) (l : fs.lookup i = some y) (q : Q y o) : VE (dXf xa ⟨a, ds⟩ i) E o Q X := by
  obtain ⟨d, e1, e2⟩ := dOfF_look (fs := []) hd l
  unfold dXf
  simp only [h, if_true, e1]
  exact vE_c (fun v => dOf_ry e2) q
def suOf (hd : Hd) (y : Xy) : SD := match dOfF y.fs with
  | some fs => hd.suite ⟨y.cls, fs⟩
  | none => sK
theorem vs_try1 {sub : Nat → Nat → Option Bool} {hd : Hd} {b : SD} {Z : ZQ} {W : XS} (p : VS b E o Z (tryW sub hd (suOf hd) Z W)) : VS (sTry sub b hd) E o Z W :=
  vs_try (fun v x y r E o Z q e h re s => by
    obtain ⟨r1, r2⟩ := r
    obtain ⟨xc, xf⟩ := x
    obtain ⟨yc, yf⟩ := y
    simp only at r1 r2
    subst r1
    unfold suOf at q
    dsimp only at q
    split at q
    · rename_i fs e1
      rw [dOfF_eq e1 r2]
      exact q v e h re s
    · exact (q v e h re s).elim) p
theorem tw_inF {sub : Nat → Nat → Option Bool} {hd : Hd} {Z : ZQ} {W : XS} {c : Nat} {fs : List (Nat × Y)} {ds : List (Nat × D)} (h : sub c hd.cls = some true) (hs : slotOk (E.map fun _ => none) hd.slot = true) (hf : dOfF fs = some ds)
    (p : VS (hd.suite ⟨c, ds⟩) (match hd.slot with | some i => E.set i none | none => E) o (fun f E2 o2 => Z f (match hd.slot with | some i => E2.set i none | none => E2) o2) nos) : tryW sub hd (suOf hd) Z W ⟨c, fs⟩ E o := .inl ⟨h, hs, by
  unfold suOf
  simp only [hf]
  exact p⟩
end
section
variable {o : OC} {Q : Y → OC → Prop} {X : XQ} {n : Nat} {c : C} {k : C → OC} {ys : List Y}
end
end Mn
namespace Mn
open PySem
section
variable {E : Ey} {o : OC} {Q : Y → OC → Prop} {X : XQ} {x : Y} {b : SD} {Z : ZQ} {W : XS} {sub : Nat → Nat → Option Bool}
def yK : L2.Key → Y
  | .inl i => .int i
  | .inr s => .str s
theorem dKeys_Y {v : Vw} : ∀ {ds : List D} {ks : List L2.Key}, RYs v ds (ks.map yK) → dKeys ds = some ks
  | [], [], _ => rfl
  | d :: ds, k :: ks, .cons a r => by
    unfold dKeys
    have e : dKey d = some k := by
      cases k with
      | inl i => cases a; rfl
      | inr s => cases a; rfl
    rw [e, dKeys_Y r]
theorem f_lenSet {ks : List L2.Key} (l : Ls o x (ks.map yK)) (h4 : ks.length < 4000) (q : Q (.int (cntF ks ks.length : Nat)) o) : VF fLenS [x] o Q X := fun v ds h r s => by
  cases r with
  | cons a r =>
    cases r
    obtain ⟨n, es, rfl, e, rs⟩ := l.get s a
    unfold fLenS
    simp only [e, dKeys_Y rs, if_pos h4]
    exact PR.ok s (.int _) q
end
theorem cnt_full {ks : List L2.Key} : ∀ i, i ≤ ks.length → (cntF ks i = i ↔ (ks.take i).Nodup) := by
  intro i
  induction i with
  | zero => intro _; simp [cntF]
  | succ i ih =>
    intro hi
    have ih := ih (by omega)
    have le := cntF_le ks i
    have e : ks.take (i + 1) = ks.take i ++ [kAt ks i] := by
      rw [List.take_succ_eq_append_getElem (show i < ks.length by omega)]
      simp [kAt, List.getD, show i < ks.length by omega]
    have hm : hasK ks i (kAt ks i) = true ↔ kAt ks i ∈ ks.take i := by
      unfold hasK
      rw [List.any_eq_true]
      constructor
      · rintro ⟨y, h1, h2⟩
        rw [of_decide_eq_true h2]; exact h1
      · exact fun h => ⟨_, h, decide_eq_true rfl⟩
    rw [e, List.nodup_append]
    unfold cntF
    by_cases h : hasK ks i (kAt ks i) = true
    · rw [if_pos h]
      refine ⟨fun z => by omega, fun ⟨_, _, z⟩ => ?_⟩
      exact absurd rfl (z _ (hm.mp h) _ (List.mem_singleton.mpr rfl))
    · rw [if_neg h]
      constructor
      · intro z
        refine ⟨ih.mp (by omega), by simp, fun a ha b hb => ?_⟩
        rw [List.mem_singleton.mp hb]
        exact fun z2 => h (hm.mpr (z2 ▸ ha))
      · intro z
        have := ih.mpr z.1
        omega
theorem cnt_nodup {ks : List L2.Key} : cntF ks ks.length = ks.length ↔ ks.Nodup := by
  have h := cnt_full (ks := ks) ks.length (Nat.le_refl _)
  rwa [List.take_length] at h
end Mn
namespace Mn
open PySem
structure Raw (v0 : Vw) (o : OC) (h0 : Hh) (p : Nat) (v : Vw) (h : Hh) (acc : List Y) : Prop where
  f : Fr v0 o h0 v o h
  s : Sat v o h
  vp : v p = none
  op : p ∉ o.ks
  q : ∃ das, h[p]? = some (.lst das) ∧ RYs v das acc
section
variable {v0 v v2 : Vw} {o : OC} {h0 h h2 : Hh} {p : Nat} {acc : List Y}
theorem Raw.step (r : Raw v0 o h0 p v h acc) (f2 : Fr v o h v2 o h2) (s2 : Sat v2 o h2) : Raw v0 o h0 p v2 h2 acc := by
  obtain ⟨das, h1, h3⟩ := r.q
  obtain ⟨g1, g2, g3⟩ := f2.keep p _ h1 r.op
  exact ⟨r.f.trans f2, s2, g2.trans r.vp, g3, das, g1, h3.mono f2.mono⟩
theorem Raw.push (r : Raw v0 o h0 p v h acc) (hpn : h0[p]? = none) {das : List D} (hd : h[p]? = some (.lst das)) {d : D} {z : Y} (rz : RY v d z) : Raw v0 o h0 p v (h.set p (.lst (das ++ [d]))) (acc ++ [z]) := by
  obtain ⟨das', h1, h3⟩ := r.q
  rw [hd] at h1
  cases h1
  have hlp := (List.getElem?_eq_some_iff.mp hd).1
  refine ⟨⟨r.f.mono, fun n x e hn => ?_⟩, ⟨fun n x e => ?_, fun w hw => ?_, r.s.nd⟩, r.vp, r.op, _, List.getElem?_set_self hlp, h3.snoc rz⟩
  · obtain ⟨k1, k2, k3⟩ := r.f.keep n x e hn
    have : p ≠ n := fun z => by subst z; rw [hpn] at e; cases e
    exact ⟨by rw [List.getElem?_set_ne this]; exact k1, k2, k3⟩
  · have : p ≠ n := fun z => by subst z; rw [r.vp] at e; cases e
    rw [List.getElem?_set_ne this]; exact r.s.vw _ _ e
  · obtain ⟨x, e1, e2, e3⟩ := r.s.oc w hw
    have : p ≠ w.1 := fun z => r.op (z ▸ List.mem_map_of_mem (f := (·.1)) hw)
    exact ⟨x, by rw [List.getElem?_set_ne this]; exact e1, e2, e3⟩
theorem raw_in {β : Type} {tg : Tg} {el : ED} {e0 : Ev} {E0 : Ey} {enc g : β → Y} (hpn : h0[p]? = none) : ∀ {bs : List β} {ds : List D} {v : Vw} {h : Hh} {acc : List Y}, Raw v0 o h0 p v h acc → REy v e0 E0 → RYs v ds (bs.map enc) → acc.length + bs.length ≤ szl →
    (∀ b ∈ bs, ∃ E1, TgY tg (enc b) E0 E1 ∧ VE el E1 o (fun z o2 => z = g b ∧ o2 = o) noq) →
    ∃ v2 h2, lcGo [] tg tY el e0 p ds h = .ok (.ref p) h2 ∧ Vle v v2 ∧ Raw v0 o h0 p v2 h2 (acc ++ bs.map g)
  | [], _, v, h, acc, r, re, .nil, hl, st => ⟨v, h, by unfold lcGo; rw [if_pos (show srcOk [] h from fun p hp => by cases hp)], fun _ _ e => e, by rw [List.map_nil, List.append_nil]; exact r⟩
  | b :: bs, d :: ds, v, h, acc, r, re, .cons r1 rs, hl, st => by
    obtain ⟨E1, tt, pv⟩ := st b (List.mem_cons_self ..)
    obtain ⟨e1, te, re1⟩ := tt v d e0 r1 re
    have pv := pv v e1 h re1 r.s
    unfold lcGo
    rw [if_pos (show srcOk [] h from fun p hp => by cases hp), te]
    simp only [tY]
    cases q2 : el e1 h with
    | stuck => rw [q2] at pv; exact pv.elim
    | exc x h3 => rw [q2] at pv; obtain ⟨_, _, _, _, _, _, z⟩ := pv; exact z.elim
    | ok d3 h3 =>
      rw [q2] at pv
      obtain ⟨v3, o4, z, f3, s3, rz, ez, eo⟩ := pv
      subst ez; subst o4
      have r2 := r.step f3 s3
      obtain ⟨das, hp1, hp2⟩ := r2.q
      have hlen : das.length < szl := by rw [hp2.length]; simp at hl; omega
      simp only [hp1, if_pos hlen]
      have r3 := r2.push hpn hp1 rz
      obtain ⟨v4, h4, e4, m4, r4⟩ := raw_in hpn (bs := bs) r3 (re.mono f3.mono) (rs.mono f3.mono) (by simp at hl ⊢; omega) (fun c hc => st c (List.mem_cons_of_mem _ hc))
      exact ⟨v4, h4, e4, fun _ _ e => m4 _ _ (f3.mono _ _ e), by rw [List.append_assoc] at r4; exact r4⟩
theorem raw_out {α : Type} {tg tg1 : Tg} {a el : ED} {e0 : Ev} {E0 : Ey} {vs1 : List Nat} {src : List (Nat × List D)} {enc : α → Y} {cnt : α → Nat} {g : α → Nat → Y} (hpn : h0[p]? = none) (so : ∀ v h, Fr v0 o h0 v o h → Sat v o h → srcOk src h) :
    ∀ {xs : List α} {ds : List D} {v : Vw} {h : Hh} {acc : List Y}, Raw v0 o h0 p v h acc → REy v e0 E0 → RYs v ds (xs.map enc) → acc.length + (xs.flatMap fun x => (List.range (cnt x)).map (g x)).length ≤ szl →
    (∀ x ∈ xs, cnt x < 16777216 ∧ ∃ E1, TgY tg (enc x) E0 E1 ∧ VE a E1 o (fun y o2 => y = .int (cnt x : Nat) ∧ o2 = o) noq ∧ ∀ i, i < cnt x → ∃ E2, TgY tg1 (.int (i : Nat)) (wipeY E1 vs1) E2 ∧ VE el E2 o (fun z o2 => z = g x i ∧ o2 = o) noq) →
    ∃ v2 h2, lc2Go src tg tY (iRange1 a) tg1 tY el e0 vs1 p ds h = .ok (.ref p) h2 ∧ Raw v0 o h0 p v2 h2 (acc ++ xs.flatMap fun x => (List.range (cnt x)).map (g x))
  | [], _, v, h, acc, r, re, .nil, hl, st => ⟨v, h, by unfold lc2Go; rw [if_pos (so v h r.f r.s)], by rw [List.flatMap_nil, List.append_nil]; exact r⟩
  | x :: xs, d :: ds, v, h, acc, r, re, .cons r1 rs, hl, st => by
    obtain ⟨hc, E1, tt, pa, pe⟩ := st x (List.mem_cons_self ..)
    obtain ⟨e1, te, re1⟩ := tt v d e0 r1 re
    have pi := (vi_range1 (a := a) (E := E1) (o := o) (X := noq) (QI := fun ys ns o2 => ns = [] ∧ o2 = o ∧ ys = (List.range (cnt x)).map fun i => Y.int (i : Nat)) (pa.mono (fun y o2 ⟨ey, eo⟩ => ⟨_, ey, ⟨by omega, by omega⟩, rfl, eo, by
      unfold rngY
      rw [Int.toNat_natCast]
      exact List.map_congr_left fun i _ => by rw [Int.zero_add]⟩) fun _ _ z => z)) v e1 h re1 r.s
    unfold lc2Go
    rw [if_pos (so v h r.f r.s), te]
    simp only [tY]
    cases q : iRange1 a e1 h with
    | stuck => rw [q] at pi; exact pi.elim
    | exc x h3 => rw [q] at pi; obtain ⟨_, _, _, _, _, _, z⟩ := pi; exact z.elim
    | ok sq h1 =>
      have hsrc : sq.src = [] := by
        unfold iRange1 at q
        cases qa : a e1 h with
        | stuck => rw [qa] at q; cases q
        | exc x h3 => rw [qa] at q; cases q
        | ok y h4 =>
          rw [qa] at q
          cases y <;> try (cases q; done)
          rename_i hi
          change rng 0 hi h4 = _ at q
          unfold rng at q
          split at q
          · cases q; rfl
          · cases q
      rw [q] at pi
      obtain ⟨v1, o1, ys, ns, f1, s1, ry, _, ens, eo, ey⟩ := pi
      subst o1; subst ey
      have r2 := r.step f1 s1
      simp only [noX, R.bind, hsrc]
      have hlen : acc.length + (List.range (cnt x)).length ≤ szl := by
        rw [List.flatMap_cons, List.length_append, List.length_map] at hl
        omega
      obtain ⟨v3, h3, e3, m3, r3⟩ := raw_in hpn (bs := List.range (cnt x)) (g := g x) r2 ((re1.mono f1.mono).wipe vs1) ry hlen (fun i hi => pe i (List.mem_range.mp hi))
      rw [e3]
      simp only
      obtain ⟨v4, h4, e4, r4⟩ := raw_out hpn so (xs := xs) r3 (re.mono fun _ _ e => m3 _ _ (f1.mono _ _ e)) (rs.mono fun _ _ e => m3 _ _ (f1.mono _ _ e)) (by
        rw [List.flatMap_cons, List.length_append, List.length_map] at hl
        rw [List.length_append, List.length_map]
        omega) (fun c hc => st c (List.mem_cons_of_mem _ hc))
      exact ⟨v4, h4, e4, by rw [List.flatMap_cons, ← List.append_assoc]; exact r4⟩
end
section
variable {E : Ey} {o : OC} {Q : Y → OC → Prop} {X : XQ}
def Lc2G {α : Type} (tg tg1 : Tg) (a el : ED) (vs1 : List Nat) (E0 : Ey) (enc : α → Y) (xs : List α) (cnt : α → Nat) (g : α → Nat → Y) (o : OC) : Prop :=
  (xs.flatMap fun x => (List.range (cnt x)).map (g x)).length ≤ szl ∧ ∀ x ∈ xs, cnt x < 16777216 ∧ ∃ E1, TgY tg (enc x) E0 E1 ∧ VE a E1 o (fun y o2 => y = .int (cnt x : Nat) ∧ o2 = o) noq ∧ ∀ i, i < cnt x → ∃ E2, TgY tg1 (.int (i : Nat)) (wipeY E1 vs1) E2 ∧ VE el E2 o (fun z o2 => z = g x i ∧ o2 = o) noq
theorem vE_Lc2 {α : Type} {it : ID} {tg tg1 : Tg} {a el : ED} {vs vs1 : List Nat} (enc : α → Y) (cnt : α → Nat) (g : α → Nat → Y)
    (p : VI it E o (fun ys ns o1 => ∃ xs : List α, ns = [] ∧ ys = xs.map enc ∧ Lc2G tg tg1 a el vs1 (wipeY E vs) enc xs cnt g o1 ∧ Q (.lst (xs.flatMap fun x => (List.range (cnt x)).map (g x))) o1) X) :
    VE (dLc2 it tg tY (iRange1 a) tg1 tY el vs vs1) E o Q X := fun v e h re s => by
  have p := p v e h re s
  unfold dLc2
  cases q : it e h with
  | stuck => rw [q] at p; exact p.elim
  | exc x h1 => rw [q] at p; exact p
  | ok sq h1 =>
    rw [q] at p
    obtain ⟨v1, o1, ys, ns, f1, s1, rs, so, xs, ens, eys, ⟨hl, st⟩, pq⟩ := p
    subst ens; subst eys
    refine PR.base f1 ?_
    obtain ⟨n1, n2⟩ := s1.new (x := .lst [])
    have s2 : Sat v1 o1 (h1 ++ [.lst []]) := ⟨fun n y e => app_old (s1.vw _ _ e), fun p hp => by
      obtain ⟨y, e1, e2, e3⟩ := s1.oc p hp
      exact ⟨y, app_old e1, e2, e3⟩, s1.nd⟩
    have f2 : Fr v1 o1 h1 v1 o1 (h1 ++ [.lst []]) := ⟨fun _ _ e => e, fun n x e hn => ⟨app_old e, rfl, hn⟩⟩
    have so' : ∀ v h, Fr v1 o1 h1 v o1 h → Sat v o1 h → srcOk sq.src h := fun v h f s p hp => by
      rcases so p hp with (q | q) | ⟨q1, q2⟩
      · unfold lstAt; rw [s.vw _ _ (f.mono _ _ q)]
      · unfold lstAt; rw [s.vw _ _ (f.mono _ _ q)]
      · cases q1
    obtain ⟨v3, h3, e3, r3⟩ := raw_out (by simp) so' (xs := xs) ⟨f2, s2, n1, n2, [], app_new, .nil⟩ ((re.mono f1.mono).wipe vs) rs (by simpa using hl) st
    show PR RY v1 o1 h1 (lc2Go sq.src tg tY (iRange1 a) tg1 tY el (wipe e vs) vs1 h1.length sq.items (h1 ++ [.lst []])) Q X
    rw [e3]
    rw [List.nil_append] at r3
    obtain ⟨das, hp1, hp2⟩ := r3.q
    have vl : Vle v3 (fun m => if m = h1.length then some (.lst das) else v3 m) := fun m y e => by
      by_cases z : m = h1.length
      · subst z; rw [r3.vp] at e; cases e
      · simp only [if_neg z]; exact e
    refine ⟨fun m => if m = h1.length then some (.lst das) else v3 m, o1, _, ⟨fun m y e => vl _ _ (r3.f.mono _ _ e), fun n x e hn => ?_⟩, ⟨fun m y e => ?_, fun q hq => ?_, r3.s.nd⟩, .lst (if_pos rfl) (hp2.mono vl), pq⟩
    · obtain ⟨k1, k2, k3⟩ := r3.f.keep n x e hn
      refine ⟨k1, ?_, k3⟩
      have : n ≠ h1.length := fun z => by subst z; simp at e
      simp only [if_neg this]; exact k2
    · by_cases z : m = h1.length
      · subst z; simp only [if_pos] at e; cases e; exact hp1
      · simp only [if_neg z] at e; exact r3.s.vw _ _ e
    · obtain ⟨y, g1, g2, g3⟩ := r3.s.oc q hq
      have : q.1 ≠ h1.length := fun z => r3.op (z ▸ List.mem_map_of_mem (f := (·.1)) hq)
      exact ⟨y, g1, by simp only [if_neg this]; exact g2, g3.mono vl⟩
end
end Mn
namespace Mn
open PySem
mutual
def Y.sub (n : Nat) (w : Y) : Y → Y
  | .tup ys => .tup (Y.subs n w ys)
  | .lst ys => .lst (Y.subs n w ys)
  | .frz ys => .frz (Y.subs n w ys)
  | .ins c fs => .ins c (Y.subF n w fs)
  | .own m => if m = n then w else .own m
  | .non => .non
  | .bl b => .bl b
  | .int i => .int i
  | .str s => .str s
  | .rg a b => .rg a b
def Y.subs (n : Nat) (w : Y) : List Y → List Y
  | [] => []
  | y :: ys => Y.sub n w y :: Y.subs n w ys
def Y.subF (n : Nat) (w : Y) : List (Nat × Y) → List (Nat × Y)
  | [] => []
  | (i, y) :: ys => (i, Y.sub n w y) :: Y.subF n w ys
end
mutual
theorem RY.sub {v : Vw} {n : Nat} {w : Y} (hw : RY v (.ref n) w) : ∀ {d : D} {y : Y}, RY v d y → RY v d (Y.sub n w y)
  | _, _, .non => .non
  | _, _, .bl b => .bl b
  | _, _, .int i => .int i
  | _, _, .str s => .str s
  | _, _, .rg a b => .rg a b
  | _, _, .tup r => .tup (RYs.sub hw r)
  | _, _, .lst e r => .lst e (RYs.sub hw r)
  | _, _, .frz e r => .frz e (RYs.sub hw r)
  | _, _, .ins e r => .ins e (RFs.sub hw r)
  | _, _, .own (n := m) => by
    rw [Y.sub]
    split
    · rename_i e; subst e; exact hw
    · exact .own
theorem RYs.sub {v : Vw} {n : Nat} {w : Y} (hw : RY v (.ref n) w) : ∀ {ds : List D} {ys : List Y}, RYs v ds ys → RYs v ds (Y.subs n w ys)
  | _, _, .nil => .nil
  | _, _, .cons a r => .cons (RY.sub hw a) (RYs.sub hw r)
theorem RFs.sub {v : Vw} {n : Nat} {w : Y} (hw : RY v (.ref n) w) : ∀ {ds : List (Nat × D)} {ys : List (Nat × Y)}, RFs v ds ys → RFs v ds (Y.subF n w ys)
  | _, _, .nil => .nil
  | _, _, .cons a r => .cons (RY.sub hw a) (RFs.sub hw r)
end
def C.sub (n : Nat) (w : Y) : C → C
  | .lst ys => .lst (Y.subs n w ys)
  | .ins c fs => .ins c (Y.subF n w fs)
theorem RC.sub {v : Vw} {n : Nat} {w : Y} (hw : RY v (.ref n) w) {x : O} {c : C} : RC v x c → RC v x (c.sub n w)
  | .lst r => .lst (RYs.sub hw r)
  | .ins r => .ins (RFs.sub hw r)
abbrev OC.sub (n : Nat) (w : Y) (o : OC) : OC := o.map fun p => (p.1, p.2.sub n w)
theorem OC.sub_ks (n : Nat) (w : Y) (o : OC) : (o.sub n w).ks = o.ks := by
  show List.map _ (List.map _ _) = _
  rw [List.map_map]
  rfl
theorem Sat.sub {v : Vw} {o : OC} {h : Hh} {n : Nat} {w : Y} (s : Sat v o h) (hw : RY v (.ref n) w) : Sat v (o.sub n w) h where
  vw := s.vw
  oc := fun p hp => by
    obtain ⟨q, hq, rfl⟩ := List.mem_map.mp hp
    obtain ⟨x, h1, h2, h3⟩ := s.oc q hq
    exact ⟨x, h1, h2, h3.sub hw⟩
  nd := by rw [OC.sub_ks]; exact s.nd
theorem Fr.sub {v v' : Vw} {o o' : OC} {h h' : Hh} (n : Nat) (w : Y) (f : Fr v o h v' o' h') : Fr v o h v' (o'.sub n w) h' :=
  ⟨f.mono, fun m x e k => by rw [OC.sub_ks]; exact f.keep m x e k⟩
abbrev Ey.sub (n : Nat) (w : Y) (E : Ey) : Ey := E.map fun y => y.map (Y.sub n w)
theorem REy.sub {v : Vw} {e : Ev} {E : Ey} {n : Nat} {w : Y} (r : REy v e E) (hw : RY v (.ref n) w) : REy v e (Ey.sub n w E) where
  len := by rw [List.length_map]; exact r.len
  at_ := fun i y hi => by
    rw [List.getElem?_map] at hi
    cases hE : E[i]? with
    | none => rw [hE] at hi; cases hi
    | some z =>
      rw [hE] at hi
      cases z with
      | none => cases hi
      | some z =>
        cases hi
        obtain ⟨d, h1, h2⟩ := r.at_ i z hE
        exact ⟨d, h1, RY.sub hw h2⟩
end Mn
namespace Mn
open PySem
section
variable {E : Ey} {o : OC} {Q : Y → OC → Prop} {Qb : Bool → OC → Prop} {X : XQ} {i : Int} {b : Bool} {s : Str}
theorem vE_cI (q : Q (.int i) o) : VE (dC (.int i)) E o Q X := vE_c (fun _ => .int _) q
theorem vE_cB (q : Q (.bl b) o) : VE (dC (.bl b)) E o Q X := vE_c (fun _ => .bl _) q
theorem vE_cS (q : Q (.str s) o) : VE (dC (.str s)) E o Q X := vE_c (fun _ => .str _) q
theorem tb_b {k : Bool} (q : Qb k o) : TB (.bl k) o Qb := ⟨k, rfl, q⟩
def yR (q : Rat) : Y := .tup [.int q.num, .int (q.den : Int)]
theorem vE_c0 (q : Q (yR 0) o) : VE (dC (.tup [.int 0, .int 1])) E o Q X := vE_c (fun _ => .tup (.cons (.int _) (.cons (.int _) .nil))) q
theorem vE_c1 (q : Q (yR 1) o) : VE (dC (.tup [.int 1, .int 1])) E o Q X := vE_c (fun _ => .tup (.cons (.int _) (.cons (.int _) .nil))) q
theorem vE_t01 (q : Q (yR 0) o) : VE (dTup (aC (dC (.int 0)) (aC (dC (.int 1)) aN))) E o Q X := vE_Tup (vA_C (vE_cI (vA_C (vE_cI (vA_N ⟨by decide, q⟩)))))
theorem vE_t11 (q : Q (yR 1) o) : VE (dTup (aC (dC (.int 1)) (aC (dC (.int 1)) aN))) E o Q X := vE_Tup (vA_C (vE_cI (vA_C (vE_cI (vA_N ⟨by decide, q⟩)))))
theorem x_r0 {a : Rat} (q : Q (.int a.num) o) : VO2 ixD (yR a) (.int 0) o Q X := x_tup rfl q
theorem x_r1 {a : Rat} (q : Q (.int (a.den : Int)) o) : VO2 ixD (yR a) (.int 1) o Q X := x_tup rfl q
theorem cnd_rt {A B : Prop} {k : Bool} (h : k = true) (q : A) : cnd k A B := by subst h; exact q
theorem cnd_rf {A B : Prop} {k : Bool} (h : k = false) (q : B) : cnd k A B := by subst h; exact q
theorem szT {n : Nat} {B : Prop} (h : Nat.ble n szl = true) (b : B) : n ≤ szl ∧ B := ⟨Nat.le_of_ble_eq_true h, b⟩
theorem plT {k : Bool} {B : Prop} (h : k = true) (b : B) : k = true ∧ B := ⟨h, b⟩
mutual
def yOfD : D → Y
  | .non => .non
  | .bl b => .bl b
  | .int i => .int i
  | .str s => .str s
  | .tup ds => .tup (yOfDs ds)
  | .ref _ => .non
  | .rg a b => .rg a b
def yOfDs : List D → List Y
  | [] => []
  | d :: ds => yOfD d :: yOfDs ds
end
mutual
def cD : D → Bool
  | .ref _ => false
  | .tup ds => cDs ds
  | _ => true
def cDs : List D → Bool
  | [] => true
  | d :: ds => cD d && cDs ds
end
mutual
theorem cD_Y {v : Vw} : ∀ (d : D), cD d = true → RY v d (yOfD d)
  | .non, _ => .non
  | .bl b, _ => .bl b
  | .int i, _ => .int i
  | .str s, _ => .str s
  | .tup ds, h => .tup (cDs_Y ds h)
  | .ref _, h => by cases h
  | .rg a b, _ => .rg a b
theorem cDs_Y {v : Vw} : ∀ (ds : List D), cDs ds = true → RYs v ds (yOfDs ds)
  | [], _ => .nil
  | d :: ds, h => by
    have h' : (cD d && cDs ds) = true := h
    rw [Bool.and_eq_true] at h'
    exact .cons (cD_Y d h'.1) (cDs_Y ds h'.2)
end
theorem vE_cD {d : D} (h : cD d = true) (q : Q (yOfD d) o) : VE (dC d) E o Q X := vE_c (fun _ => cD_Y d h) q
def cutZ (J : Ey → OC → Prop) (Z : ZQ) : ZQ := fun f E o => match f with
  | .nx => J E o
  | f => Z f E o
theorem cz_nx {J : Ey → OC → Prop} {Z : ZQ} (q : J E o) : cutZ J Z .nx E o := q
theorem vs_cut {a b : SD} {Z : ZQ} {W : XS} (J : Ey → OC → Prop) (p : VS a E o (cutZ J Z) W) (q : ∀ E o, J E o → VS b E o Z W) : VS (sSq a b) E o Z W :=
  vs_sq (p.mono (fun l E o h => by cases l <;> first | exact q E o h | exact h) fun _ _ _ h => h)
theorem for_mem {tg : Tg} {body : SD} {ys : List Y} {Z : ZQ} {W : XS} (I : Ey → OC → Prop) (i0 : I E o) (st : ∀ y ∈ ys, ∀ E o, I E o → ∃ E1, TgY tg y E E1 ∧ VS body E1 o (loopZ I [] Z) W) (en : ∀ E o, I E o → Z .nx E o) : ForG tg body ys [] E o Z W :=
  ⟨o, [], fun _ => I, .nil, i0, fun pre y post E o e i => st y (by rw [e]; simp) E o i, fun E o i => en E o i⟩
theorem ret_p {r y : Y} (q : y = r) : Ret y o (fun y o => y = r ∧ o = []) := ret_0 ⟨q, rfl⟩
end
theorem log2_le_of {n k : Nat} (h : n < 2 ^ k) : n.log2 ≤ k := by
  by_cases z : n = 0
  · subst z; exact Nat.zero_le _
  · exact Nat.le_of_lt ((Nat.log2_lt z).mpr h)
theorem cMul_of {i j : Int} {k l : Nat} (hi : i.natAbs < 2 ^ k) (hj : j.natAbs < 2 ^ l) (h : k + l < 100000000) : cMul i j := by
  have := log2_le_of hi
  have := log2_le_of hj
  unfold cMul
  omega
theorem cDiv_of {j : Int} {k : Nat} (hj : j.natAbs < 2 ^ k) (h : k < 9000) (h0 : j ≠ 0) : cDiv j := by
  have := log2_le_of hj
  exact ⟨h0, by omega⟩
def Bd (k : Nat) (q : Rat) : Prop := q.num.natAbs < 2 ^ k ∧ q.den < 2 ^ k
theorem Bd.mono {k l : Nat} {q : Rat} (h : Bd k q) (hl : k ≤ l) : Bd l q := ⟨Nat.lt_of_lt_of_le h.1 (Nat.pow_le_pow_right (by decide) hl), Nat.lt_of_lt_of_le h.2 (Nat.pow_le_pow_right (by decide) hl)⟩
theorem natAbs_div_le (a : Int) (n : Nat) : (a / (n : Int)).natAbs ≤ a.natAbs := by
  cases n with
  | zero => simp
  | succ n => exact Int.natAbs_ediv_le_natAbs a _
theorem Bd.mk {p : Int} {q k : Nat} (hk : 0 < k) (hp : p.natAbs < 2 ^ k) (hq : q < 2 ^ k) : Bd k (mkRat p q) := by
  refine ⟨?_, ?_⟩
  · rw [Rat.num_mkRat]
    split
    · exact Nat.two_pow_pos k
    · refine Nat.lt_of_le_of_lt ?_ hp
      exact natAbs_div_le _ _
  · rw [Rat.den_mkRat]
    split
    · subst q
      cases k with
      | zero => omega
      | succ k => have := Nat.two_pow_pos k; rw [Nat.pow_succ]; omega
    · exact Nat.lt_of_le_of_lt (Nat.div_le_self _ _) hq
theorem Bd.pos {k : Nat} {q : Rat} (h : Bd k q) : 0 < k := by
  cases k with
  | zero => have := h.2; have := q.den_pos; omega
  | succ k => omega
theorem Bd.neg {k : Nat} {q : Rat} (h : Bd k q) : Bd k (-q) := ⟨by rw [Rat.neg_num, Int.natAbs_neg]; exact h.1, by rw [Rat.neg_den]; exact h.2⟩
theorem pow_mul_lt {a b k l : Nat} (ha : a < 2 ^ k) (hb : b < 2 ^ l) : a * b < 2 ^ (k + l) := by
  rw [Nat.pow_add]
  exact Nat.mul_lt_mul'' ha hb
theorem Bd.mul {k l : Nat} {a b : Rat} (ha : Bd k a) (hb : Bd l b) : Bd (k + l) (a * b) := by
  rw [Rat.mul_def']
  refine Bd.mk (by have := ha.pos; omega) ?_ (pow_mul_lt ha.2 hb.2)
  rw [Int.natAbs_mul]
  exact pow_mul_lt ha.1 hb.1
theorem Bd.add {k l : Nat} {a b : Rat} (ha : Bd k a) (hb : Bd l b) : Bd (k + l + 1) (a + b) := by
  rw [Rat.add_def']
  refine Bd.mk (by omega) ?_ ?_
  · refine Nat.lt_of_le_of_lt (Int.natAbs_add_le _ _) ?_
    rw [Int.natAbs_mul, Int.natAbs_mul, Int.natAbs_natCast, Int.natAbs_natCast]
    have h1 := pow_mul_lt ha.1 hb.2
    have h2 := pow_mul_lt hb.1 ha.2
    rw [Nat.add_comm l k] at h2
    rw [Nat.pow_succ]
    omega
  · have := pow_mul_lt ha.2 hb.2
    rw [Nat.pow_succ]
    omega
theorem Bd.sub {k l : Nat} {a b : Rat} (ha : Bd k a) (hb : Bd l b) : Bd (k + l + 1) (a - b) := by
  rw [Rat.sub_eq_add_neg]
  exact ha.add hb.neg
theorem Bd.zero : Bd 1 0 := ⟨by decide, by decide⟩
theorem Bd.one : Bd 1 1 := ⟨by decide, by decide⟩
theorem Bd.int {i : Int} {k : Nat} (h : i.natAbs < 2 ^ k) (hk : 0 < k) : Bd k (i : Rat) := ⟨h, by
  rw [Rat.den_intCast]
  exact Nat.one_lt_two_pow (by omega)⟩
theorem Bd.divInt {p q : Int} {k : Nat} (hq : q ≠ 0) (h1 : p.natAbs < 2 ^ k) (h2 : q.natAbs < 2 ^ k) : Bd k (Rat.divInt p q) := by
  refine ⟨?_, ?_⟩
  · rw [Rat.num_divInt]
    refine Nat.lt_of_le_of_lt (natAbs_div_le _ _) ?_
    rw [Int.natAbs_mul, Int.natAbs_sign_of_ne_zero hq, Nat.one_mul]; exact h1
  · rw [Rat.den_divInt, if_neg hq]
    exact Nat.lt_of_le_of_lt (Nat.div_le_self _ _) h2
theorem divInt_parts {p q : Int} (hq : q ≠ 0) : (Rat.divInt p q).num = p.fdiv (if q < 0 then -((Nat.gcd p.natAbs q.natAbs : Nat) : Int) else ((Nat.gcd p.natAbs q.natAbs : Nat) : Int)) ∧
    ((Rat.divInt p q).den : Int) = q.fdiv (if q < 0 then -((Nat.gcd p.natAbs q.natAbs : Nat) : Int) else ((Nat.gcd p.natAbs q.natAbs : Nat) : Int)) := by
  have g0 : Nat.gcd p.natAbs q.natAbs ≠ 0 := fun z => hq (Int.natAbs_eq_zero.mp (Nat.gcd_eq_zero_iff.mp z).2)
  generalize hg : Nat.gcd p.natAbs q.natAbs = g at *
  have dp : (g : Int) ∣ p := Int.ofNat_dvd_left.mpr (hg ▸ Nat.gcd_dvd_left _ _)
  have dq : (g : Int) ∣ q := Int.ofNat_dvd_left.mpr (hg ▸ Nat.gcd_dvd_right _ _)
  have gc : q.gcd p = g := by unfold Int.gcd; rw [Nat.gcd_comm]; exact hg
  obtain ⟨a, rfl⟩ := dp
  obtain ⟨b, rfl⟩ := dq
  have gp : (0 : Int) < g := by omega
  rw [Rat.num_divInt, Rat.den_divInt, gc, if_neg hq]
  have f1 : ∀ x : Int, ((g : Int) * x).fdiv g = x := fun x => by rw [Int.mul_comm]; exact Int.mul_fdiv_cancel _ (by omega)
  have f2 : ∀ x : Int, ((g : Int) * x).fdiv (-(g : Int)) = -x := fun x => by
    have : (g : Int) * x = (-x) * (-(g : Int)) := by rw [Int.neg_mul_neg, Int.mul_comm]
    rw [this]; exact Int.mul_fdiv_cancel _ (by omega)
  by_cases hn : (g : Int) * b < 0
  · rw [if_pos hn, f2, f2]
    have hb : b < 0 := by
      rcases Int.lt_trichotomy b 0 with h | h | h
      · exact h
      · subst h; simp at hn
      · exact absurd (Int.mul_pos gp h) (by omega)
    rw [Int.sign_eq_neg_one_of_neg hn]
    refine ⟨?_, ?_⟩
    · rw [Int.neg_one_mul, ← Int.mul_neg]; exact Int.mul_ediv_cancel_left _ (by omega)
    · rw [Int.natAbs_mul, Int.natAbs_natCast, Nat.mul_div_cancel_left _ (by omega)]; omega
  · rw [if_neg hn, f1, f1]
    have hb : 0 < b := by
      rcases Int.lt_trichotomy b 0 with h | h | h
      · exact absurd (Int.mul_neg_of_pos_of_neg gp h) hn
      · subst h; simp at hq
      · exact h
    rw [Int.sign_eq_one_of_pos (Int.mul_pos gp hb), Int.one_mul]
    refine ⟨Int.mul_ediv_cancel_left _ (by omega), ?_⟩
    rw [Int.natAbs_mul, Int.natAbs_natCast, Nat.mul_div_cancel_left _ (by omega)]; omega
mutual
theorem eqY_refl : ∀ y : Y, eqY y y = true
  | .non => rfl
  | .bl b => by simp [eqY, pdY, PyData.eqv]
  | .int i => by simp [eqY, pdY, PyData.eqv]
  | .str s => by simp [eqY, pdY, PyData.eqv]
  | .tup ys => eqYs_refl ys
  | .lst ys => eqYs_refl ys
  | .frz ys => eqYs_refl ys
  | .ins _ _ => rfl
  | .own _ => rfl
  | .rg _ _ => rfl
theorem eqYs_refl : ∀ ys : List Y, PyData.eqvAll (pdYs ys) (pdYs ys) = true
  | [] => rfl
  | y :: ys => by
    simp only [pdYs, PyData.eqvAll, Bool.and_eq_true]
    exact ⟨eqY_refl y, eqYs_refl ys⟩
end
theorem any_pd (x : Y) : ∀ ys : List Y, ((pdYs ys).any fun z => PyData.eqv z (pdY x)) = ys.any fun y => eqY y x
  | [] => rfl
  | y :: ys => by
    simp only [pdYs, List.any_cons, any_pd x ys]
    rfl
theorem flat_N {v : Vw} {d : D} {x : Y} (r : RY v d x) (f : flatY x = false) : flatD d = false := by cases r <;> first | rfl | cases f
theorem inD_N {v : Vw} {h : Hh} {d : D} {x : Y} {ds : List D} (r : RY v d x) (f : flatY x = false) : inD h d ds = none := by
  unfold inD
  rw [if_neg (fun z => by rw [flat_N r f] at z; exact Bool.false_ne_true z.1)]
theorem inA_T {v : Vw} {o : OC} {h : Hh} (s : Sat v o h) {x : Y} {ys : List Y} {d d' : D} {ds : List D} (r : RY v d x) (r' : RY v d' (.tup ys)) (f : flatY x = false) (e : okY 12 x = true) (e' : ys.all (okY 11) = true) : inA h d d' ds = some (ys.any fun y => eqY y x) := by
  have e0 : okY 12 (.tup ys) = true := by simpa only [okY] using e'
  have a := okY_pd s 12 _ _ r' e0
  have b := okY_pd s 12 _ _ r e
  have s1 : SeqAt.shaped (pdY (.tup ys)) = true := okY_shaped e0
  have s2 : SeqAt.shaped (pdY x) = true := okY_shaped e
  unfold inA
  rw [inD_N r f]
  unfold inS
  simp only [a, b]
  have e3 : pdY (.tup ys) = .tuple (pdYs ys) := rfl
  simp only [e3] at s1 ⊢
  rw [if_pos ⟨s2, s1⟩, any_pd]
section
variable {o : OC} {Q : Y → OC → Prop} {X : XQ} {x l : Y} {ys : List Y}
theorem c_inTN (f : flatY x = false) (e : okY 12 x = true) (e' : ys.all (okY 11) = true) (q : Q (.bl (ys.any fun y => eqY y x)) o) : VO2 (bcmp .In) x (.tup ys) o Q X := fun v d d' h r r' s => by
  cases r' with
  | @tup ds _ rs =>
    have e2 := inA_T (ds := ds) s r (.tup rs) f e e'
    cases r <;> first | (cases f; done) | (
      show PR RY v o h (ofB (inA h _ (.tup _) _) id h) Q X
      rw [e2]; exact PR.ok s (.bl _) q)
end
end Mn
namespace Mn
open PySem
local macro_rules | `(tactic| walk_at "at") => `(tactic| first | exact At.here | exact At.there At.here | exact At.there (At.there At.here) | exact At.there (At.there (At.there At.here)))
local macro_rules | `(tactic| walk_at "ls") => `(tactic| first | exact Ls.lst _ | exact Ls.frz _ | (refine' Ls.own ?hat; (case hat => walk_at "at")))
local macro_rules | `(tactic| walk_at "lw") => `(tactic| first | exact Lw.lst _ | exact Lw.frz _ | (refine' Lw.own ?hat; (case hat => walk_at "at")))
local macro_rules | `(tactic| walk_at "is") => `(tactic| first | exact Is.ins _ _ | (refine' Is.own ?hat; (case hat => walk_at "at")))
local macro_rules | `(tactic| walk_at "rm") => `(tactic| first | exact Rm.here | exact Rm.there Rm.here | exact Rm.there (Rm.there Rm.here) | exact Rm.there (Rm.there (Rm.there Rm.here)))
local macro_rules | `(tactic| walk_at "fz") => `(tactic| (repeat (first | exact Fz.nil | apply Fz.chg | apply Fz.keep)))
local macro_rules | `(tactic| walk_at "set") => `(tactic| (try (conv => arg 2; dsimp only [List.set, setY])))
local macro_rules | `(tactic| walk_at "v0") => `(tactic| (conv => arg 2; simp only [startY, List.map_cons, List.map_nil, List.length_cons, List.length_nil, Nat.reduceAdd, Nat.reduceSub, Nat.zero_add, List.replicate, List.cons_append, List.nil_append, List.append_nil]))
local macro_rules | `(tactic| walk_at "s1") => `(tactic| first
  | (with_reducible refine vs_sq ?_)
  | (with_reducible refine vs_if ?_)
  | (with_reducible refine vs_asN ?_)
  | (with_reducible refine vs_asI ?_)
  | (with_reducible refine vs_rt ?_)
  | (with_reducible refine vs_ex ?_)
  | (with_reducible refine vs_nx ?_)
  | (with_reducible refine vs_aug ?_)
  | (with_reducible refine vs_raise ?_)
  | (with_reducible refine vs_try1 ?_)
  | (with_reducible refine vs_par ?_)
  | (with_reducible refine vs_augI ?_)
  | (with_reducible refine vs_fl ?_)
  | (with_reducible refine vs_raiseA ?_)
  | (with_reducible refine vs_augF ?_)
  | (with_reducible refine vs_bk ?_)
  | (with_reducible refine vs_ct ?_))
local macro_rules | `(tactic| walk_at "e1") => `(tactic| first
  | ((with_reducible refine' vE_v ?hi ?_); (case hi => exact rfl))
  | (with_reducible refine vE_cI ?_)
  | (with_reducible refine vE_Ix ?_)
  | (with_reducible refine vE_B ?_)
  | (with_reducible refine vE_Cmp ?_)
  | (with_reducible refine vE_Call0 ?_)
  | (with_reducible refine vE_c0 ?_)
  | (with_reducible refine vE_c1 ?_)
  | (with_reducible refine vE_cB ?_)
  | (with_reducible refine vE_cN ?_)
  | (with_reducible refine vE_cS ?_)
  | ((with_reducible refine vE_cD rfl ?_); dsimp only [yOfDs, yOfD])
  | ((with_reducible refine vE_CallD rfl ?_); dsimp only [yOfDs, yOfD])
  | (with_reducible refine vE_Is ?_)
  | (with_reducible refine vE_t01 ?_)
  | (with_reducible refine vE_t11 ?_)
  | (with_reducible refine vE_Tup ?_)
  | (with_reducible refine vE_M ?_)
  | (with_reducible refine vE_U ?_)
  | (with_reducible refine vE_Lst false ?_)
  | (with_reducible refine vE_AndT ?_)
  | (with_reducible refine vE_OrT ?_)
  | (with_reducible refine vE_NotT ?_)
  | (with_reducible refine vE_If ?_)
  | (with_reducible refine vE_Ch ?_)
  | (with_reducible refine vE_Sl ?_)
  | (with_reducible refine vE_Fld ?_))
local macro_rules | `(tactic| walk_at "t1") => `(tactic| first
  | (with_reducible refine vT_B ?_)
  | (with_reducible refine vT_Not ?_)
  | (with_reducible refine vT_And ?_)
  | (with_reducible refine vT_Or ?_)
  | (with_reducible refine vT_E ?_)
  | (with_reducible refine vT_Y ?_))
local macro_rules | `(tactic| walk_at "b1") => `(tactic| first
  | (with_reducible refine b_add ?_)
  | (with_reducible refine b_sub ?_)
  | (with_reducible refine b_mul (by assumption) ?_)
  | (with_reducible refine b_div (by assumption) ?_)
  | ((with_reducible refine' b_mod ?hc ?_); (case hc => first | assumption | omega))
  | ((with_reducible refine' b_div ?hc ?_); (case hc => (with_reducible show cDiv (OfNat.ofNat _)); exact ⟨by decide, by decide⟩))
  | ((with_reducible refine' b_pow ?hc ?_); (case hc => decide)))
local macro_rules | `(tactic| walk_at "c1") => `(tactic| first
  | (with_reducible refine c_eqI ?_)
  | (with_reducible refine c_neI ?_)
  | (with_reducible refine c_eqS ?_)
  | (with_reducible refine c_neS ?_)
  | (with_reducible refine c_eqB ?_)
  | (with_reducible refine c_neB ?_)
  | (with_reducible refine c_lt ?_)
  | (with_reducible refine c_le ?_)
  | (with_reducible refine c_gt ?_)
  | (with_reducible refine c_ge ?_)
  | (with_reducible refine c_is ?_)
  | (with_reducible refine c_isB ?_)
  | (with_reducible refine c_isntB ?_)
  | (with_reducible refine c_isnt ?_)
  | (with_reducible refine c_eqR ?_)
  | (with_reducible refine c_neR ?_))
local macro_rules | `(tactic| walk_at "i1") => `(tactic| first
  | (with_reducible refine x_r0 ?_)
  | (with_reducible refine x_r1 ?_)
  | ((with_reducible refine' x_lst ?hl ?hi ?_); (case hl => walk_at "ls"); (case hi => exact rfl))
  | ((with_reducible refine' x_tup ?hi ?_); (case hi => exact rfl)))
local macro_rules | `(tactic| walk_at "f1") => `(tactic| first
  | (with_reducible refine f_gcd ?_)
  | (with_reducible refine f_int ?_)
  | (with_reducible refine f_intB ?_)
  | (with_reducible refine f_abs ?_)
  | (with_reducible refine f_lenT ?_)
  | (with_reducible refine f_tupleT ?_)
  | (with_reducible refine f_min ?_)
  | (with_reducible refine f_rng1 ?_)
  | (with_reducible refine f_max ?_)
  | ((with_reducible refine' f_str ?hc ?_); (case hc => assumption))
  | ((with_reducible refine' f_strL ?hc ?_); (case hc => assumption))
  | ((with_reducible refine' f_len ?hl ?_); (case hl => walk_at "ls"))
  | ((with_reducible refine' f_list false ?hl ?_); (case hl => walk_at "ls")))
local macro_rules | `(tactic| walk_at "z1") => `(tactic| first
  | (with_reducible refine tb_b ?_)
  | (with_reducible refine os_i ?_)
  | ((with_reducible refine' cnd_rt ?hk ?_); (case hk => rfl))
  | ((with_reducible refine' cnd_rf ?hk ?_); (case hk => rfl))
  | (with_reducible refine cnd_d (fun _ => ?_) (fun _ => ?_))
  | (with_reducible refine cnd_t ?_)
  | (with_reducible refine cnd_f ?_)
  | (with_reducible refine cnd_n ?_)
  | (with_reducible refine cnd_i (fun _ => ?_) (fun _ => ?_))
  | ((with_reducible refine sq_nx ?_); walk_at "set")
  | (with_reducible refine sq_rt ?_)
  | ((with_reducible refine cz_nx ?_); try dsimp only [List.set, setY])
  | (with_reducible refine cz_rt ?_)
  | (with_reducible refine cz_bk ?_)
  | (with_reducible refine cz_ct ?_)
  | (with_reducible refine fn_rt ?_)
  | (with_reducible refine fn_nx ?_)
  | (with_reducible refine szT rfl ?_)
  | (with_reducible refine plT rfl ?_)
  | (with_reducible refine u_neg ?_)
  | (with_reducible refine NL.fz ?_)
  | (with_reducible refine NL.ow fun _ _ => ?_)
  | ((with_reducible refine' st_own ?ha ?hi ?_); (case ha => walk_at "at"); (case hi => exact rfl); try dsimp only [List.set, Int.reduceToNat])
  | (with_reducible refine tr_b ?_)
  | (with_reducible refine tr_i ?_)
  | (with_reducible refine tr_n ?_)
  | (with_reducible refine i_add ?_)
  | (with_reducible refine i_sub ?_)
  | (with_reducible refine sq_bk ?_)
  | (with_reducible refine sq_ct ?_)
  | ((with_reducible refine lz_nx ?_); try dsimp only [List.set, setY])
  | ((with_reducible refine lz_ct ?_); try dsimp only [List.set, setY])
  | ((with_reducible refine lz_bk ?_); try dsimp only [List.set, setY])
  | (with_reducible refine lz_rt ?_)
  | (with_reducible contradiction)
  | ((with_reducible refine ret_p ?_); try with_reducible rfl))
local macro_rules | `(tactic| walk_at "l1") => `(tactic| first
  | (with_reducible refine vO_N ?_)
  | (with_reducible refine vO_S ?_)
  | (with_reducible refine sl_t ?_)
  | ((with_reducible refine' sl_l false ?hl ?_); (case hl => walk_at "ls"))
  | ((with_reducible refine' sl_s ?hl ?_); (case hl => assumption)))
local macro_rules | `(tactic| walk_at "v1") => `(tactic| first
  | ((with_reducible show VOp _ _ _ _ _); walk_at "l1")
  | ((with_reducible show VSl _ _ _ _ _ _); walk_at "l1")
  | ((with_reducible show VE _ _ _ _ _); walk_at "e1")
  | ((with_reducible show VO (fldD _) _ _ _ _); refine' fl_is ?hl ?hi ?_; (case hl => walk_at "is"); (case hi => exact rfl))
  | ((with_reducible show VPut _ _ _ _ _ _); refine' pt_own ?ha ?hn ?hl ?_; (case ha => walk_at "at"); (case hn => exact rfl); (case hl => exact Nat.le_of_ble_eq_true rfl))
  | ((with_reducible show VS _ _ _ _ _); walk_at "s1")
  | ((with_reducible show VA _ _ _ _ _); first | (with_reducible refine vA_C ?_) | (with_reducible refine vA_N ?_))
  | ((with_reducible show VT _ _ _ _ _); walk_at "t1")
  | ((with_reducible show VO2 (bop _) _ _ _ _ _); walk_at "b1")
  | ((with_reducible show VO2 (bcmp _) _ _ _ _ _); walk_at "c1")
  | ((with_reducible show VO2 ixD _ _ _ _ _); walk_at "i1")
  | ((with_reducible show VF _ _ _ _ _); walk_at "f1")
  | walk_at "z1")
local macro_rules | `(tactic| walk_at "v") => `(tactic| (repeat' (walk_at "v1")))
local macro_rules | `(tactic| walk_at "w") => `(tactic| (repeat' ((fail_if_success (with_reducible show VS (sSq (sIf _ _ _) _) _ _ _ _)); walk_at "v1")))
local macro_rules | `(tactic| walk_at "vl") => `(tactic| (repeat' ((fail_if_success (with_reducible show VE (dLst _) _ _ _ _)); walk_at "v1")))
local macro_rules | `(tactic| walk_at "vk") => `(tactic| (repeat' ((fail_if_success (with_reducible show VF fList _ _ _ _)); walk_at "v1")))
local macro_rules | `(tactic| walk_at "vt") => `(tactic| (repeat' ((fail_if_success (with_reducible show Ret _ _ _)); walk_at "v1")))
local macro_rules | `(tactic| walk_at "wi") => `(tactic| (repeat' ((fail_if_success (with_reducible show VS (sIf _ _ _) _ _ _ _)); walk_at "v1")))
local macro_rules | `(tactic| walk_at "vx") => `(tactic| (repeat' ((fail_if_success (with_reducible show VS _ _ _ _ _)); walk_at "v1")))
section
noncomputable def P_is_integer : FD := fnRun (sRt (dAndT (dIs .int (dV 0)) (dNotT (dIs .bool (dV 0))))) 1
noncomputable def P_is_ratio (c_is_integer : FD) : FD := fnRun (sSq (sIf (tOr (tNot (tE (dIs .tuple (dV 0)))) (tB (dCmp .NotEq (dCall fLen (aC (dV 0) aN) []) (dC (.int 2))))) (sRt (dC (.bl false))) sNx)
    (sSq (sIf (tOr (tNot (tE (dCall c_is_integer (aC (dIx (dV 0) (dC (.int 0))) aN) []))) (tOr (tNot (tE (dCall c_is_integer (aC (dIx (dV 0) (dC (.int 1))) aN) []))) (tB (dCmp .Lt (dIx (dV 0) (dC (.int 1))) (dC (.int 1)))))) (sRt (dC (.bl false))) sNx)
    (sRt (dCmp .Eq (dCall fGcd (aC (dIx (dV 0) (dC (.int 0))) (aC (dIx (dV 0) (dC (.int 1))) aN)) []) (dC (.int 1)))))) 1
noncomputable def P_make : FD := fnRun (sSq (sIf (tB (dCmp .Eq (dV 1) (dC (.int 0)))) (sRaise 16) sNx)
    (sSq (sAs (dCall fGcd (aC (dV 0) (aC (dV 1) aN)) []) (ofG (gN 2)))
    (sSq (sIf (tB (dCmp .Lt (dV 1) (dC (.int 0)))) (sAs (dU .USub (dV 2)) (ofG (gN 2))) sNx)
    (sRt (dTup (aC (dB .FloorDiv (dV 0) (dV 2)) (aC (dB .FloorDiv (dV 1) (dV 2)) aN))))))) 3
noncomputable def P_multiply (c_make : FD) : FD := fnRun (sRt (dCall c_make (aC (dB .Mult (dIx (dV 0) (dC (.int 0))) (dIx (dV 1) (dC (.int 0)))) (aC (dB .Mult (dIx (dV 0) (dC (.int 1))) (dIx (dV 1) (dC (.int 1)))) aN)) [])) 2
noncomputable def P_compare : FD := fnRun (sSq (sAs (dB .Sub (dB .Mult (dIx (dV 0) (dC (.int 0))) (dIx (dV 1) (dC (.int 1)))) (dB .Mult (dIx (dV 1) (dC (.int 0))) (dIx (dV 0) (dC (.int 1))))) (ofG (gN 2)))
    (sRt (dB .Sub (dCall fInt (aC (dCmp .Gt (dV 2) (dC (.int 0))) aN) []) (dCall fInt (aC (dCmp .Lt (dV 2) (dC (.int 0))) aN) [])))) 3
noncomputable def P_sign (c_compare : FD) : FD := fnRun (sRt (dCall c_compare (aC (dV 0) (aC (dC (.tup [(.int 0), (.int 1)])) aN)) [])) 1
def Make (f : FD) : Prop := ∀ (p q : Int) (k : Nat), q ≠ 0 → q.natAbs < 2 ^ k → k < 9000 → VP f [.int p, .int q] (yR (Rat.divInt p q))
theorem cDiv_gcd {p q : Int} {k : Nat} (h0 : q ≠ 0) (h1 : q.natAbs < 2 ^ k) (h2 : k < 9000) : cDiv ((Nat.gcd p.natAbs q.natAbs : Nat) : Int) ∧ cDiv (-((Nat.gcd p.natAbs q.natAbs : Nat) : Int)) := by
  have g0 : Nat.gcd p.natAbs q.natAbs ≠ 0 := fun z => h0 (Int.natAbs_eq_zero.mp (Nat.gcd_eq_zero_iff.mp z).2)
  have gl : Nat.gcd p.natAbs q.natAbs ≤ q.natAbs := Nat.gcd_le_right _ (by omega)
  refine ⟨cDiv_of (k := k) ?_ h2 (by omega), cDiv_of (k := k) ?_ h2 (by omega)⟩
  · rw [Int.natAbs_natCast]; omega
  · rw [Int.natAbs_neg, Int.natAbs_natCast]; omega
theorem make_ok : Make P_make := fun p q k h0 h1 h2 => by
  obtain ⟨d1, d2⟩ := cDiv_gcd (p := p) h0 h1 h2
  obtain ⟨e1, e2⟩ := divInt_parts (p := p) h0
  refine vp_run ?_
  walk_at "v0"
  walk_at "v"
  · rename_i hn
    rw [if_pos hn] at e1 e2
    unfold yR
    rw [e1, e2]
  · rename_i hn
    rw [if_neg hn] at e1 e2
    unfold yR
    rw [e1, e2]
theorem den_cast (a b : Rat) : ((a.den : Int) * (b.den : Int)) = ((a.den * b.den : Nat) : Int) := by simp
theorem divInt_nat (n : Int) (d : Nat) : Rat.divInt n (d : Int) = mkRat n d := Rat.divInt_ofNat n d
theorem den_ne {a b : Rat} : ((a.den : Int) * (b.den : Int)) ≠ 0 := by
  have := a.den_pos; have := b.den_pos
  exact Int.mul_ne_zero (by omega) (by omega)
theorem den_lt {a b : Rat} {k l : Nat} (ha : Bd k a) (hb : Bd l b) : ((a.den : Int) * (b.den : Int)).natAbs < 2 ^ (k + l) := by
  rw [Int.natAbs_mul]
  exact pow_mul_lt ha.2 hb.2
theorem cm_nd {a b : Rat} {k l : Nat} (ha : Bd k a) (hb : Bd l b) (h : k + l < 8999) : cMul a.num (b.den : Int) := cMul_of ha.1 (by rw [Int.natAbs_natCast]; exact hb.2) (by omega)
theorem cm_dd {a b : Rat} {k l : Nat} (ha : Bd k a) (hb : Bd l b) (h : k + l < 8999) : cMul (a.den : Int) (b.den : Int) := cMul_of (by rw [Int.natAbs_natCast]; exact ha.2) (by rw [Int.natAbs_natCast]; exact hb.2) (by omega)
theorem cm_nn {a b : Rat} {k l : Nat} (ha : Bd k a) (hb : Bd l b) (h : k + l < 8999) : cMul a.num b.num := cMul_of ha.1 hb.1 (by omega)
def Add (f : FD) : Prop := ∀ {a b : Rat} {k l : Nat}, Bd k a → Bd l b → k + l < 8999 → VP f [yR a, yR b] (yR (a + b))
def Sub (f : FD) : Prop := ∀ {a b : Rat} {k l : Nat}, Bd k a → Bd l b → k + l < 8999 → VP f [yR a, yR b] (yR (a - b))
def Mul (f : FD) : Prop := ∀ {a b : Rat} {k l : Nat}, Bd k a → Bd l b → k + l < 8999 → VP f [yR a, yR b] (yR (a * b))
theorem multiply_ok {c_make : FD} (hm : Make c_make) : Mul (P_multiply c_make) := fun {a b k l} ha hb h => by
  have := cm_nn ha hb h; have := cm_dd ha hb h
  refine vp_run ?_
  walk_at "v0"
  walk_at "v"
  refine vc_p (hm _ _ _ den_ne (den_lt ha hb) (by omega)) ?_
  walk_at "v"
  rw [den_cast, divInt_nat, ← Rat.mul_def']
def cmpR (a b : Rat) : Int := if b < a then 1 else if a < b then -1 else 0
def Cmp (f : FD) : Prop := ∀ {a b : Rat} {k l : Nat}, Bd k a → Bd l b → k + l < 8999 → VP f [yR a, yR b] (.int (cmpR a b))
theorem compare_ok : Cmp P_compare := fun {a b k l} ha hb h => by
  have := cm_nd ha hb h; have := cm_nd hb ha (by omega)
  have e1 := Rat.lt_iff b a
  have e2 := Rat.lt_iff a b
  refine vp_run ?_
  walk_at "v0"
  walk_at "v"
  congr 1
  unfold cmpR
  by_cases h1 : b < a
  · have h3 := e1.mp h1
    rw [if_pos h1]
    have d1 : decide (0 < a.num * (b.den : Int) - b.num * (a.den : Int)) = true := decide_eq_true (by omega)
    have d2 : decide (a.num * (b.den : Int) - b.num * (a.den : Int) < 0) = false := decide_eq_false (by omega)
    rw [d1, d2]; rfl
  · have h3 : ¬ _ := fun z => h1 (e1.mpr z)
    rw [if_neg h1]
    have d1 : decide (0 < a.num * (b.den : Int) - b.num * (a.den : Int)) = false := decide_eq_false (by omega)
    by_cases h2 : a < b
    · have h4 := e2.mp h2
      have d2 : decide (a.num * (b.den : Int) - b.num * (a.den : Int) < 0) = true := decide_eq_true (by omega)
      rw [if_pos h2, d1, d2]; rfl
    · have h4 : ¬ _ := fun z => h2 (e2.mpr z)
      have d2 : decide (a.num * (b.den : Int) - b.num * (a.den : Int) < 0) = false := decide_eq_false (by omega)
      rw [if_neg h2, d1, d2]; rfl
def Sign (f : FD) : Prop := ∀ {a : Rat} {k : Nat}, Bd k a → k < 8998 → VP f [yR a] (.int (cmpR a 0))
theorem sign_ok {c_compare : FD} (hc : Cmp c_compare) : Sign (P_sign c_compare) := fun {a k} ha h => by
  refine vp_run ?_
  walk_at "v0"
  walk_at "v"
  refine vc_p (hc ha Bd.zero (by omega)) ?_
  walk_at "v"
section
variable {f : FD} {o : OC} {Q : Y → OC → Prop} {X : XQ} {a b : Rat} {k l : Nat}
theorem sign_call (h : Sign f) (ha : Bd k a) (hk : k < 8998) (q : Q (.int (cmpR a 0)) o) : VF f [yR a] o Q X := vc_p (h ha hk) q
end
end
local macro_rules | `(tactic| walk_at "bd") => `(tactic| first
  | assumption
  | exact Bd.zero
  | exact Bd.one
  | ((with_reducible refine' Bd.add ?ha ?hb); (case ha => walk_at "bd"); (case hb => walk_at "bd"))
  | ((with_reducible refine' Bd.sub ?ha ?hb); (case ha => walk_at "bd"); (case hb => walk_at "bd"))
  | ((with_reducible refine' Bd.mul ?ha ?hb); (case ha => walk_at "bd"); (case hb => walk_at "bd"))
  | ((with_reducible refine' Bd.neg ?ha); (case ha => walk_at "bd"))
  | ((with_reducible refine' Bd.div ?ha ?hb); (case ha => walk_at "bd"); (case hb => walk_at "bd")))
local macro_rules | `(tactic| walk_at "f1") => `(tactic| first
  | ((with_reducible refine' add_call (by assumption) ?h1 ?h2 ?h3 ?_); (case h1 => walk_at "bd"); (case h2 => walk_at "bd"); (case h3 => omega))
  | ((with_reducible refine' mul_call (by assumption) ?h1 ?h2 ?h3 ?_); (case h1 => walk_at "bd"); (case h2 => walk_at "bd"); (case h3 => omega))
  | ((with_reducible refine' sub_call (by assumption) ?h1 ?h2 ?h3 ?_); (case h1 => walk_at "bd"); (case h2 => walk_at "bd"); (case h3 => omega))
  | ((with_reducible refine' cmp_call (by assumption) ?h1 ?h2 ?h3 ?_); (case h1 => walk_at "bd"); (case h2 => walk_at "bd"); (case h3 => omega))
  | ((with_reducible refine' sign_call (by assumption) ?h1 ?h3 ?_); (case h1 => walk_at "bd"); (case h3 => omega))
  | ((with_reducible refine' floor_call (by assumption) ?h1 ?h3 ?_); (case h1 => walk_at "bd"); (case h3 => omega))
  | (with_reducible refine neg_call (by assumption) ?_))
section
def dkC (ns : List Int) (i acc seed : Int) : C := .lst [.lst (ns.map .int), .int i, .int acc, .int seed]
def DK (ns : List Int) (m : Nat) (c : C) : Prop := ∃ i acc seed : Int, c = dkC ns i acc seed ∧ 0 ≤ i ∧ i ≤ m ∧ 0 ≤ acc ∧ 0 ≤ seed ∧ seed < 2147483647 ∧ ∀ z ∈ ns, z.natAbs < 2 ^ 1048577
theorem DK.mono {ns : List Int} {m m' : Nat} {c : C} (h : DK ns m c) (hm : m ≤ m') : DK ns m' c := by
  obtain ⟨i, a, s, h1, h2, h3, h4⟩ := h
  exact ⟨i, a, s, h1, h2, by omega, h4⟩
theorem fmod_lt {a b : Int} (hb : 0 < b) : 0 ≤ a.fmod b ∧ a.fmod b < b := by
  rw [Int.fmod_eq_emod_of_nonneg _ (by omega)]
  exact ⟨Int.emod_nonneg _ (by omega), Int.emod_lt_of_pos _ hb⟩
def Gcd (f : FD) : Prop := ∀ (a b : Int) (k : Nat), 0 ≤ a → 0 ≤ b → a.natAbs < 2 ^ k → b.natAbs < 2 ^ k → 2 * k < 4990 → VP f [.int a, .int b] (.int ((Nat.gcd a.natAbs b.natAbs : Nat) : Int))
theorem gcd_step {a b : Int} (ha : 0 ≤ a) (hb : 0 < b) : Nat.gcd b.natAbs (a.fmod b).natAbs = Nat.gcd a.natAbs b.natAbs := by
  rw [Int.fmod_eq_emod_of_nonneg _ (by omega), Int.natAbs_emod_of_nonneg ha, Nat.gcd_comm, ← Nat.gcd_rec, Nat.gcd_comm]
theorem prod_step {a b : Int} {p : Nat} (hb : 0 < b) (hab : b ≤ a) (h : a.natAbs * b.natAbs < 2 ^ (p + 1)) : b.natAbs * (a.fmod b).natAbs < 2 ^ p := by
  obtain ⟨n, rfl⟩ : ∃ n : Nat, a = n := ⟨a.toNat, by omega⟩
  obtain ⟨m, rfl⟩ : ∃ m : Nat, b = m := ⟨b.toNat, by omega⟩
  rw [Int.fmod_eq_emod_of_nonneg _ (by omega), ← Int.natCast_emod]
  simp only [Int.natAbs_natCast] at h ⊢
  have h1 : n % m < m := Nat.mod_lt _ (by omega)
  have h2 : m + n % m ≤ n := by
    have h3 := Nat.mod_add_div n m
    have h4 : 1 ≤ n / m := (Nat.one_le_div_iff (by omega)).mpr (by omega)
    have h5 : m * 1 ≤ m * (n / m) := Nat.mul_le_mul_left _ h4
    omega
  have h6 : 2 * (n % m) ≤ n := by omega
  have h7 : m * (2 * (n % m)) ≤ m * n := Nat.mul_le_mul_left _ h6
  have h8 : m * (2 * (n % m)) = 2 * (m * (n % m)) := by rw [Nat.mul_left_comm]
  have h9 : m * n = n * m := Nat.mul_comm _ _
  rw [Nat.pow_succ] at h
  omega
theorem abs_natAbs (a : Int) : (if a < 0 then -a else a) = ((a.natAbs : Nat) : Int) := by
  split <;> omega
end
local macro_rules | `(tactic| walk_at "f1") => `(tactic| first
  | ((with_reducible refine' same_call (by assumption) ?hs ?_); (case hs => rfl)))
section
def ABd (k : Nat) (xs : List Rat) : Prop := ∀ x ∈ xs, Bd k x
def totR (xs : List Rat) : Rat := xs.foldl (· + ·) 0
def dotR (xs ys : List Rat) : Rat := totR ((xs.zip ys).map fun p => p.1 * p.2)
theorem ABd.zip {k l : Nat} {xs ys : List Rat} (hx : ABd k xs) (hy : ABd l ys) : ABd (k + l) ((xs.zip ys).map fun p => p.1 * p.2) := fun z hz => by
  obtain ⟨p, hp, e⟩ := List.mem_map.mp hz
  subst e
  have := List.of_mem_zip (show (p.1, p.2) ∈ xs.zip ys from hp)
  exact (hx _ this.1).mul (hy _ this.2)
theorem cmpR_lt {a b : Rat} : cmpR a b < 0 ↔ a < b := by
  unfold cmpR
  by_cases h1 : b < a
  · have h2 : ¬ a < b := fun h => absurd (Rat.le_of_lt h) (Rat.not_le.mpr h1)
    rw [if_pos h1]; simp [h2]
  · by_cases h2 : a < b
    · rw [if_neg h1, if_pos h2]; simp [h2]
    · rw [if_neg h1, if_neg h2]; simp [h2]
end
section
noncomputable def P__law_draws : FD := fnRun (sSq (sAs (dLst aN) (ofG (gN 1)))
    (sSq (sFor (iSeq (dV 0)) (gN 2) (sSq (sAs (dCall fAbs (aC (dV 2) aN) []) (ofG (gN 3)))
    (sSq (sIf (tB (dCmp .Lt (dV 3) (dB .Pow (dC (.int 10)) (dC (.int 18))))) (sSq (sAs (dB .Mod (dCall fInt (aC (dB .Add (dB .Mult (dV 3) (dC (.int 48271))) (dC (.int 11))) aN) []) (dC (.int 2147483647))) (ofG (gN 4)))
    (sSq (sEx (dM chkL mAppend (dV 1) (aC (dB .Mod (dCall fInt (aC (dB .Add (dB .Mult (dV 4) (dC (.int 69621))) (dV 3)) aN) []) (dC (.int 2147483629))) aN)))
    (sSq (sEx (dM chkL mAppend (dV 1) (aC (dB .Mod (dCall fInt (aC (dB .Add (dV 4) (dB .FloorDiv (dV 3) (dC (.int 7)))) aN) []) (dC (.int 1000003))) aN)))
    (sAs (dC (.int 0)) (ofG (gN 3)))))) sNx)
    (sFor (iRange1 (dC (.int 60))) (gN 5) (sIf (tB (dCmp .Gt (dV 3) (dC (.int 0)))) (sSq (sEx (dM chkL mAppend (dV 1) (aC (dB .Mod (dCall fInt (aC (dV 3) aN) []) (dC (.int 997))) aN)))
    (sAs (dB .FloorDiv (dV 3) (dC (.int 997))) (ofG (gN 3)))) sNx)))))
    (sSq (sAs (dC (.int 1)) (ofG (gN 6)))
    (sSq (sIf (tB (dCmp .Gt (dCall fLen (aC (dV 0) aN) []) (dC (.int 0)))) (sAs (dB .Add (dC (.int 1)) (dCall fAbs (aC (dIx (dV 0) (dC (.int 0))) aN) [])) (ofG (gN 6))) sNx)
    (sSq (sFor (iRange1 (dC (.int 60))) (gN 5) (sSq (sAs (dB .Mod (dCall fInt (aC (dB .Add (dB .Mult (dV 6) (dC (.int 48271))) (dC (.int 69621))) aN) []) (dC (.int 2147483647))) (ofG (gN 6)))
    (sEx (dM chkL mAppend (dV 1) (aC (dB .FloorDiv (dV 6) (dC (.int 5))) aN)))))
    (sRt (dCall fLRev (aC (dV 1) aN) []))))))) 7
noncomputable def P__law_take : FD := fnRun (sSq (sIf (tB (dCmp .Eq (dCall fLen (aC (dV 0) aN) []) (dC (.int 0)))) (sRt (dC (.int 0))) sNx)
    (sRt (dB .Mod (dCall fInt (aC (dM chkL mPop (dV 0) aN) aN) []) (dV 1)))) 2
noncomputable def P__law_make : FD := fnRun (sSq (sAs (dCall fAbs (aC (dV 0) aN) []) (ofG (gN 2)))
    (sSq (sAs (dV 1) (ofG (gN 3)))
    (sSq (sFor (iRange1 (dC (.int 5000))) (gN 4) (sSq (sIf (tB (dCmp .Eq (dV 3) (dC (.int 0)))) sBk sNx)
    (sSq (sAs (dB .Mod (dCall fInt (aC (dV 2) aN) []) (dV 3)) (ofG (gN 5)))
    (sSq (sAs (dV 3) (ofG (gN 2)))
    (sAs (dV 5) (ofG (gN 3)))))))
    (sRt (dTup (aC (dB .FloorDiv (dV 0) (dV 2)) (aC (dB .FloorDiv (dV 1) (dV 2)) aN))))))) 6
noncomputable def P__law_same_2 (c__law_same : FD) : FD := fnRun (sSq (sIf (tOr (tE (dIs .tuple (dV 1))) (tE (dIs .list (dV 1)))) (sSq (sIf (tOr (tB (dCmp .NotEq (dIs .tuple (dV 1)) (dIs .tuple (dV 0)))) (tB (dCmp .NotEq (dIs .list (dV 1)) (dIs .list (dV 0))))) (sRt (dC (.bl false))) sNx)
    (sSq (sIf (tB (dCmp .NotEq (dCall fLen (aC (dV 0) aN) []) (dCall fLen (aC (dV 1) aN) []))) (sRt (dC (.bl false))) sNx)
    (sSq (sFor (iRange1 (dCall fLen (aC (dV 1) aN) [])) (gN 2) (sIf (tNot (tE (dCall c__law_same (aC (dIx (dV 0) (dV 2)) (aC (dIx (dV 1) (dV 2)) aN)) []))) (sRt (dC (.bl false))) sNx))
    (sRt (dC (.bl true)))))) sNx)
    (sSq (sIf (tB (dCmp .NotEq (dIs .bool (dV 1)) (dIs .bool (dV 0)))) (sRt (dC (.bl false))) sNx)
    (sSq (sIf (tOr (tB (dCmp .NotEq (dIs .int (dV 1)) (dIs .int (dV 0)))) (tB (dCmp .NotEq (dIs .str (dV 1)) (dIs .str (dV 0))))) (sRt (dC (.bl false))) sNx)
    (sRt (dCmp .Eq (dV 0) (dV 1)))))) 3
structure NB (k : Nat) (z : Int) : Prop where
  h : z.natAbs < 2 ^ k
abbrev WI (xs : List Int) : C := .lst (xs.map .int)
def Draws (f : FD) : Prop := ∀ ns : List Int, ns.length ≤ 63 → (∀ z ∈ ns, z.natAbs < 2 ^ 1048577) → VF f [.frz (ns.map .int)] [] (fun y o => ∃ n xs, y = .own n ∧ o = [(n, WI xs)]) noq
def Take (f : FD) : Prop := ∀ (n : Nat) (xs : List Int) (b : Int), 0 < b → VF f [.own n, .int b] [(n, WI xs)] (fun y o => ∃ r xs', y = .int r ∧ 0 ≤ r ∧ r < b ∧ o = [(n, WI xs')]) noq
theorem fmod_lt2 {a b : Int} (hb : 0 < b) : 0 ≤ a.fmod b ∧ a.fmod b < b := by
  rw [Int.fmod_eq_emod_of_nonneg _ (by omega)]
  exact ⟨Int.emod_nonneg _ (by omega), Int.emod_lt_of_pos _ hb⟩
theorem take_ok : Take P__law_take := fun n xs b hb => by
  refine vf_run ?_
  walk_at "v0"
  walk_at "v"
  · exact ret_v (List.Sublist.refl _) ⟨_, _, rfl, by omega, hb, rfl⟩
  · rename_i hl
    rw [List.length_map] at hl
    refine ⟨chk_L (.own .here), ?_⟩
    walk_at "v"
    have h0 : xs.length - 1 < xs.length := by omega
    refine m_pop' .here (y := .int (xs[xs.length - 1])) ?_ ?_
    · rw [List.length_map, List.getElem?_map, List.getElem?_eq_getElem h0]; rfl
    walk_at "v"
    refine ret_v (List.Sublist.refl _) ⟨_, xs.dropLast, rfl, (fmod_lt2 hb).1, (fmod_lt2 hb).2, ?_⟩
    show [(n, C.lst (List.map Y.int xs).dropLast)] = [(n, C.lst (List.map Y.int xs.dropLast))]
    rw [List.map_dropLast]
theorem take_call {d : FD} (hd : Take d) {o : OC} {n : Nat} {xs : List Int} {k : C → OC} {b : Int} {Q : Y → OC → Prop} {X : XQ} (a : At o n (WI xs) k) (h0 : 0 < b) (q : ∀ r xs', 0 ≤ r → r < b → Q (.int r) (k (WI xs'))) : VF d [.own n, .int b] o Q X :=
  vc_own a (hd n xs b h0) (fun y o1 ⟨r, xs', e1, r0, r1, e2⟩ => ⟨_, e2, by subst e1; exact q r xs' r0 r1⟩) (fun _ _ z => z.elim)
theorem mapI_snoc (xs : List Int) (i : Int) : xs.map Y.int ++ [Y.int i] = (xs ++ [i]).map Y.int := by simp
theorem draws_ok : Draws P__law_draws := fun ns hl hb => by
  refine vf_run ?_
  walk_at "v0"
  walk_at "s1"
  walk_at "s1"
  refine vE_Lst true ?_
  walk_at "v"
  rename_i n hn
  refine vs_for (vi_seq ?_)
  walk_at "v"
  refine ⟨_, _, .frz _, ?_⟩
  refine for_mapI (fun t E o => ∃ xs : List Int, o = [(n, WI xs)] ∧ xs.length ≤ 62 * t ∧ ∃ a b c d, E = [some (.frz (ns.map .int)), some (.own n), a, b, c, d, none]) ⟨[], rfl, by simp, _, _, _, _, rfl⟩ (fun t ht E o ⟨xs, eo, hx, xa, xb, xc, xd, eE⟩ => ?_) (fun E o ⟨xs, eo, hx, xa, xb, xc, xd, eE⟩ => ?_)
  · subst eo; subst eE
    generalize ns[t] = z
    refine ⟨_, tg_n, ?_⟩
    walk_at "set"
    have room : ∀ ys : List Int, ys.length ≤ 62 * t + 62 → (ys.map Y.int).length < szl := fun ys h => by rw [List.length_map]; have : szl = 16777216 := rfl; omega
    refine vs_sq ?_
    walk_at "w"
    refine vs_cut (fun E o => ∃ (xs' : List Int) (w : Int) (b : Option Y), o = [(n, WI xs')] ∧ xs'.length ≤ 62 * t + 2 ∧ 0 ≤ w ∧ E = [some (.frz (ns.map .int)), some (.own n), some (.int z), some (.int w), b, xd, none]) ?_ (fun E o ⟨xs', w, b, eo, hx', hw, eE⟩ => ?_)
    · have e18 : (10 : Int) ^ Int.toNat 18 = 1000000000000000000 := by decide
      walk_at "w"
      · rename_i h
        rw [e18] at h
        have hn2 : (if z < 0 then -z else z).natAbs < 2 ^ 60 := by split at h <;> rename_i h2 <;> simp only [h2, if_true, if_false] <;> omega
        have m1 : cMul (if z < 0 then -z else z) 48271 := cMul_of (k := 60) (l := 16) hn2 (by decide) (by decide)
        have m2 : ∀ y : Int, cMul (y.fmod 2147483647) 69621 := fun y => by
          have := fmod_lt2 (a := y) (b := 2147483647) (by decide)
          exact cMul_of (k := 31) (l := 17) (by omega) (by decide) (by decide)
        walk_at "v"
        refine ⟨chk_L (.own .here), ?_⟩
        walk_at "v"
        refine b_mul (m2 _) ?_
        walk_at "v"
        refine m_append' .here (room _ (by omega)) ?_
        rw [mapI_snoc]
        walk_at "v"
        refine ⟨chk_L (.own .here), ?_⟩
        walk_at "v"
        refine m_append' .here (room _ (by rw [List.length_append, List.length_singleton]; omega)) ?_
        rw [mapI_snoc]
        walk_at "v"
        refine ⟨_, 0, _, rfl, ?_, by omega, rfl⟩
        rw [List.length_append, List.length_append, List.length_singleton, List.length_singleton]; omega
      · walk_at "v"
        exact ⟨xs, _, _, rfl, by omega, by split <;> omega, rfl⟩
    · subst eo; subst eE
      refine vs_for (vi_range1 ?_)
      walk_at "v"
      refine ⟨_, rfl, ⟨by omega, by omega⟩, ?_⟩
      refine for_rng (fun i E o => ∃ (ys : List Int) (w : Int) (d : Option Y), o = [(n, WI ys)] ∧ ys.length ≤ 62 * t + 2 + i ∧ 0 ≤ w ∧ E = [some (.frz (ns.map .int)), some (.own n), some (.int z), some (.int w), b, d, none]) ⟨xs', w, _, rfl, hx', hw, rfl⟩ (fun i E o hi ⟨ys, w, d, eo, hy, hw, eE⟩ => ?_) (fun E o ⟨ys, w, d, eo, hy, hw, eE⟩ => ?_)
      · subst eo; subst eE
        have hi' : i < 60 := hi
        refine ⟨_, tg_n, ?_⟩
        walk_at "set"
        walk_at "v"
        · refine ⟨chk_L (.own .here), ?_⟩
          walk_at "v"
          refine m_append' .here (room _ (by omega)) ?_
          rw [mapI_snoc]
          walk_at "v"
          refine ⟨_, _, _, rfl, ?_, ?_, rfl⟩
          · rw [List.length_append, List.length_singleton]; omega
          · rw [Int.fdiv_eq_ediv_of_nonneg _ (by omega)]
            exact Int.ediv_nonneg hw (by omega)
        · exact ⟨ys, w, _, rfl, by omega, hw, rfl⟩
      · subst eo; subst eE
        walk_at "v"
        have hy' : ys.length ≤ 62 * t + 2 + 60 := hy
        exact ⟨ys, rfl, by omega, _, _, _, _, rfl⟩
  · subst eo; subst eE
    walk_at "w"
    refine vs_cut (fun E o => ∃ (s : Int), NB 1048578 s ∧ o = [(n, WI xs)] ∧ E = [some (.frz (ns.map .int)), some (.own n), xa, xb, xc, xd, some (.int s)]) ?_ (fun E o ⟨s, hs, eo, eE⟩ => ?_)
    · walk_at "v"
      · rename_i hpos
        rw [List.length_map] at hpos
        have h0 : 0 < ns.length := by omega
        refine x_lst (.frz _) (y := .int ns[0]) (atI_nat (k := 0) (by simp [h0])) ?_
        walk_at "v"
        have := hb _ (List.getElem_mem h0)
        refine ⟨_, ⟨?_⟩, rfl, rfl⟩
        rw [show 1048578 = 1048577 + 1 from rfl, Nat.pow_succ]
        have p1 := Nat.one_le_two_pow (n := 1048577)
        split <;> omega
      · refine ⟨1, ⟨?_⟩, rfl, rfl⟩
        exact Nat.one_lt_two_pow (by decide)
    · subst eo; subst eE
      refine vs_sq ?_
      refine vs_for (vi_range1 ?_)
      walk_at "v"
      refine ⟨_, rfl, ⟨by omega, by omega⟩, ?_⟩
      refine for_rng (fun i E o => ∃ (ys : List Int) (s : Int) (d : Option Y), o = [(n, WI ys)] ∧ ys.length ≤ 62 * ns.length + i ∧ NB 1048578 s ∧ E = [some (.frz (ns.map .int)), some (.own n), xa, xb, xc, d, some (.int s)]) ⟨xs, s, _, rfl, hx, hs, rfl⟩ (fun i E o hi ⟨ys, s, d, eo, hy, hs, eE⟩ => ?_) (fun E o ⟨ys, s, d, eo, hy, hs, eE⟩ => ?_)
      · subst eo; subst eE
        have hi' : i < 60 := hi
        refine ⟨_, tg_n, ?_⟩
        walk_at "set"
        have m1 : cMul s 48271 := cMul_of (k := 1048578) (l := 16) hs.h (by decide) (by decide)
        walk_at "v"
        refine ⟨chk_L (.own .here), ?_⟩
        walk_at "v"
        refine m_append' .here (by rw [List.length_map]; have : szl = 16777216 := rfl; omega) ?_
        rw [mapI_snoc]
        walk_at "v"
        refine ⟨_, _, _, rfl, ?_, ?_, rfl⟩
        · rw [List.length_append, List.length_singleton]; omega
        · have := fmod_lt2 (a := s * 48271 + 69621) (b := 2147483647) (by decide)
          exact ⟨Nat.lt_of_lt_of_le (show _ < 2 ^ 31 by omega) (Nat.pow_le_pow_right (by decide) (by decide))⟩
      · subst eo; subst eE
        walk_at "v"
        refine f_lrev true (.own .here) ?_
        refine NL.ow fun m hm => ?_
        walk_at "v"
        refine ret_v (o1 := [(m, _)]) (List.Sublist.cons₂ _ (List.nil_sublist _)) ⟨m, ys.reverse, rfl, ?_⟩
        rw [WI, List.map_reverse]
def LMake (f : FD) : Prop := ∀ (p q : Int) (k : Nat), 0 < q → p.natAbs < 2 ^ k → q.natAbs < 2 ^ k → 2 * k < 4990 → VP f [.int p, .int q] (yR (Rat.divInt p q))
theorem lmake_ok : LMake P__law_make := fun p b k hb h1 h2 hk => by
  obtain ⟨d1, d2⟩ := cDiv_gcd (p := p) (Int.ne_of_gt hb) h2 (by omega)
  obtain ⟨e1, e2⟩ := divInt_parts (p := p) (Int.ne_of_gt hb)
  rw [if_neg (by omega)] at e1 e2
  refine vp_run ?_
  walk_at "v0"
  walk_at "v"
  rw [abs_natAbs]
  have ha0 : (0 : Int) ≤ ((p.natAbs : Nat) : Int) := by omega
  have ea : Nat.gcd ((p.natAbs : Nat) : Int).natAbs b.natAbs = Nat.gcd p.natAbs b.natAbs := by rw [Int.natAbs_natCast]
  have h1' : ((p.natAbs : Nat) : Int).natAbs < 2 ^ k := by rw [Int.natAbs_natCast]; exact h1
  generalize ((p.natAbs : Nat) : Int) = a at *
  refine vs_for (vi_range1 ?_)
  walk_at "v"
  refine ⟨_, rfl, ⟨by omega, by omega⟩, ?_⟩
  refine for_rng (fun t E o => o = [] ∧ ∃ a' b' x y, E = [some (.int p), some (.int b), some (.int a'), some (.int b'), x, y] ∧ 0 ≤ a' ∧ 0 ≤ b' ∧ Nat.gcd a'.natAbs b'.natAbs = Nat.gcd a.natAbs b.natAbs ∧ (b' = 0 ∨ (t = 0 ∧ a' = a ∧ b' = b) ∨ (b' ≤ a' ∧ t ≤ 2 * k + 1 ∧ a'.natAbs * b'.natAbs < 2 ^ (2 * k + 2 - t)))) ⟨rfl, _, _, _, _, rfl, ha0, by omega, rfl, .inr (.inl ⟨rfl, rfl, rfl⟩)⟩ (fun t E o ht ⟨eo, a', b', x, y, eE, ha', hb', hg, hd⟩ => ?_) (fun E o ⟨eo, a', b', x, y, eE, ha', hb', hg, hd⟩ => ?_)
  · subst eo; subst eE
    refine ⟨_, tg_n, ?_⟩
    walk_at "set"
    walk_at "v"
    · rename_i hz
      subst hz
      have eg : a' = ((Nat.gcd p.natAbs b.natAbs : Nat) : Int) := by
        rw [← ea, ← hg, Int.natAbs_zero, Nat.gcd_zero_right]; omega
      subst eg
      walk_at "v"
      unfold yR
      rw [e1, e2]
    · rename_i hz
      have hp : 0 < b' := by omega
      have hm := fmod_lt (a := a') hp
      refine ⟨rfl, _, _, _, _, rfl, hb', hm.1, (gcd_step ha' hp).trans hg, ?_⟩
      rcases hd with hd | ⟨e1, e2, e3⟩ | ⟨e1, e2, e3⟩
      · exact absurd hd hz
      · subst e1; subst e2; subst e3
        refine .inr (.inr ⟨by omega, by omega, ?_⟩)
        have h5 : (a'.fmod b').natAbs ≤ b'.natAbs := by omega
        have h6 : b'.natAbs * (a'.fmod b').natAbs ≤ b'.natAbs * b'.natAbs := Nat.mul_le_mul_left _ h5
        have h7 := pow_mul_lt h2 h2
        have h8 : (2 : Nat) ^ (k + k) ≤ 2 ^ (2 * k + 2 - (0 + 1)) := Nat.pow_le_pow_right (by decide) (by omega)
        omega
      · by_cases hr : a'.fmod b' = 0
        · exact .inl hr
        · refine .inr (.inr ⟨by omega, ?_, ?_⟩)
          · rcases Nat.lt_or_ge t (2 * k + 1) with h | h
            · omega
            · exfalso
              have h8 : 2 * k + 2 - t = 1 := by omega
              rw [h8] at e3
              have h9 := prod_step (p := 0) hp e1 e3
              have h10 : 1 ≤ b'.natAbs := by omega
              have h11 : 1 ≤ (a'.fmod b').natAbs := by omega
              have := Nat.mul_le_mul h10 h11
              omega
          · have h8 : 2 * k + 2 - t = 2 * k + 2 - (t + 1) + 1 := by omega
            rw [h8] at e3
            exact prod_step hp e1 e3
  · subst eo; subst eE
    have hz : b' = 0 := by
      rcases hd with hd | ⟨e1, e2, e3⟩ | ⟨e1, e2, e3⟩
      · exact hd
      · exact absurd e1 (by decide)
      · exfalso
        have : Int.toNat 5000 = 5000 := rfl
        omega
    subst hz
    have eg : a' = ((Nat.gcd p.natAbs b.natAbs : Nat) : Int) := by
      rw [← ea, ← hg, Int.natAbs_zero, Nat.gcd_zero_right]; omega
    subst eg
    walk_at "v"
    unfold yR
    rw [e1, e2]
def smZ : Nat → Y → Bool
  | _, .non | _, .bl _ | _, .int _ | _, .str _ => true
  | k + 1, .tup ys | k + 1, .lst ys => decide (ys.length < 1000000) && ys.all (smZ k)
  | _, _ => false
def SameZ (k : Nat) (f : FD) : Prop := ∀ y, smZ k y = true → VP f [y, y] (.bl true)
theorem sameZ_ok (k : Nat) {c : FD} (hc : ∀ j, k = j + 1 → SameZ j c) : SameZ k (P__law_same_2 c) := fun y hy => by
  cases y with
  | non =>
    refine vp_run ?_
    walk_at "v0"
    walk_at "v"
    refine c_eq rfl rfl ?_
    walk_at "v"
    rfl
  | bl b =>
    refine vp_run ?_
    walk_at "v0"
    walk_at "v"
    simp
  | int i =>
    refine vp_run ?_
    walk_at "v0"
    walk_at "v"
    simp
  | str s =>
    refine vp_run ?_
    walk_at "v0"
    walk_at "v"
    simp
  | tup ys =>
    cases k with
    | zero => simp [smZ] at hy
    | succ k =>
      simp only [smZ, Bool.and_eq_true, decide_eq_true_eq] at hy
      refine vp_run ?_
      walk_at "v0"
      walk_at "v"
      refine vs_for (vi_range1 ?_)
      walk_at "v"
      refine ⟨_, rfl, ⟨by omega, by omega⟩, ?_⟩
      refine for_rng (fun t E o => o = [] ∧ ∃ x, E = [some (.tup ys), some (.tup ys), x]) ⟨rfl, _, rfl⟩ (fun t E o ht ⟨eo, x, eE⟩ => ?_) (fun E o ⟨eo, x, eE⟩ => ?_)
      · subst eo; subst eE
        have ht' : t < ys.length := by omega
        have e : L2.atI ys (0 + (t : Int)) = some ys[t] := by rw [Int.zero_add]; exact atI_nat (List.getElem?_eq_getElem ht')
        refine ⟨_, tg_n, ?_⟩
        walk_at "set"
        walk_at "v"
        refine x_tup e ?_
        walk_at "v"
        refine x_tup e ?_
        walk_at "v"
        refine vc_p (hc k rfl _ (List.all_eq_true.mp hy.2 _ (List.getElem_mem ht'))) ?_
        walk_at "v"
        exact ⟨rfl, _, rfl⟩
      · subst eo; subst eE
        walk_at "v"
  | lst ys =>
    cases k with
    | zero => simp [smZ] at hy
    | succ k =>
      simp only [smZ, Bool.and_eq_true, decide_eq_true_eq] at hy
      refine vp_run ?_
      walk_at "v0"
      walk_at "v"
      refine vs_for (vi_range1 ?_)
      walk_at "v"
      refine ⟨_, rfl, ⟨by omega, by omega⟩, ?_⟩
      refine for_rng (fun t E o => o = [] ∧ ∃ x, E = [some (.lst ys), some (.lst ys), x]) ⟨rfl, _, rfl⟩ (fun t E o ht ⟨eo, x, eE⟩ => ?_) (fun E o ⟨eo, x, eE⟩ => ?_)
      · subst eo; subst eE
        have ht' : t < ys.length := by omega
        have e : L2.atI ys (0 + (t : Int)) = some ys[t] := by rw [Int.zero_add]; exact atI_nat (List.getElem?_eq_getElem ht')
        refine ⟨_, tg_n, ?_⟩
        walk_at "set"
        walk_at "v"
        refine x_lst (.lst _) e ?_
        walk_at "v"
        refine x_lst (.lst _) e ?_
        walk_at "v"
        refine vc_p (hc k rfl _ (List.all_eq_true.mp hy.2 _ (List.getElem_mem ht'))) ?_
        walk_at "v"
        exact ⟨rfl, _, rfl⟩
      · subst eo; subst eE
        walk_at "v"
  | frz ys => cases k <;> simp [smZ] at hy
  | ins c fs => cases k <;> simp [smZ] at hy
  | own n => cases k <;> simp [smZ] at hy
  | rg a b => cases k <;> simp [smZ] at hy
end
section
def LDotL (f : FD) : Prop := ∀ {xs ys : List Rat} {k l : Nat} {o : OC} {x y : Y}, ABd k xs → ABd l ys → (min xs.length ys.length + 1) * (k + l + 1) < 2300 → Ls o x (xs.map yR) → Ls o y (ys.map yR) → VF f [x, y] o (fun r o2 => r = yR (dotR xs ys) ∧ o2 = o) noq
theorem LDotL.p {f : FD} (h : LDotL f) {xs ys : List Rat} {k l : Nat} (hx : ABd k xs) (hy : ABd l ys) (hk : (min xs.length ys.length + 1) * (k + l + 1) < 2300) : VP f [.lst (xs.map yR), .lst (ys.map yR)] (yR (dotR xs ys)) := h hx hy hk (.lst _) (.lst _)
end
section
noncomputable def P_is_name : FD := fnRun (sRt (dAndT (dCh .LtE .LtE (dC (.int 1)) (dCall fLen (aC (dV 0) aN) []) (dC (.int 12))) (dCall fAll (aC (dLc (iSeq (dV 0)) (gN 1) tY (dCmp .In (dV 1) (dC (.str "abcdefghijklmnopqrstuvwxyz"))) [1]) aN) []))) 2
noncomputable def P_are_names (c_is_name : FD) : FD := fnRun (sSq (sIf (tOr (tB (dCmp .Eq (dCall fLen (aC (dV 0) aN) []) (dC (.int 0)))) (tNot (tE (dCall fAll (aC (dLc (iSeq (dV 0)) (gN 1) tY (dCall c_is_name (aC (dV 1) aN) []) [1]) aN) [])))) (sRt (dC (.bl false))) sNx)
    (sRt (dCmp .Eq (dCall fLenS (aC (dV 0) aN) []) (dCall fLen (aC (dV 0) aN) [])))) 2
noncomputable def P__law_names (c__law_take : FD) : FD := fnRun (sSq (sAs (dC (.str "abcdefghijklmnopqrstuvwxyz")) (ofG (gN 2)))
    (sSq (sAs (dLst aN) (ofG (gN 3)))
    (sSq (sFor (iRange1 (dV 1)) (gN 4) (sSq (sAs (dIx (dV 2) (dCall c__law_take (aC (dV 0) (aC (dC (.int 26)) aN)) [])) (ofG (gN 5)))
    (sSq (sFor (iRange1 (dCall c__law_take (aC (dV 0) (aC (dC (.int 4)) aN)) [])) (gN 6) (sAs (dB .Add (dV 5) (dIx (dV 2) (dCall c__law_take (aC (dV 0) (aC (dC (.int 26)) aN)) []))) (ofG (gN 5))))
    (sSq (sFor (iRange1 (dC (.int 8))) (gN 6) (sIf (tB (dCmp .In (dV 5) (dV 3))) (sAs (dB .Add (dV 5) (dIx (dV 2) (dV 4))) (ofG (gN 5))) sNx))
    (sEx (dM chkL mAppend (dV 3) (aC (dV 5) aN)))))))
    (sRt (dV 3))))) 7
abbrev abc : Str := "abcdefghijklmnopqrstuvwxyz"
def isLet (c : Nat) : Bool := decide (97 ≤ c) && decide (c ≤ 122)
structure NmOk (s : Str) : Prop where
  a : 1 ≤ s.length
  b : s.length ≤ 12
  c : ∀ c ∈ s.cps.toList, isLet c = true
theorem abc_at {r : Int} (h0 : 0 ≤ r) (h1 : r < 26) : L2.atI abc.cps.toList r = some (97 + r.toNat) := by
  have k : ∀ i, i < 26 → abc.cps.toList[i]? = some (97 + i) := by decide +kernel
  obtain ⟨i, rfl⟩ : ∃ i : Nat, r = i := ⟨r.toNat, by omega⟩
  unfold L2.atI
  have e : L2.ixN abc.cps.toList.length (i : Int) = some i := ixN_nat (by
    have : abc.cps.toList.length = 26 := by decide +kernel
    omega)
  rw [e]
  exact k i (by omega)
theorem abc_len : abc.length ≤ szl := by decide +kernel
theorem let_in (c : Nat) (h : isLet c = true) : (!(Builtin.Str.occurrences abc ⟨#[c]⟩ 0 abc.length 1).isEmpty) = true := by
  have k : ∀ i, i < 123 → isLet i = true → (!(Builtin.Str.occurrences abc ⟨#[i]⟩ 0 abc.length 1).isEmpty) = true := by decide +kernel
  refine k c ?_ h
  unfold isLet at h
  rw [Bool.and_eq_true, decide_eq_true_eq, decide_eq_true_eq] at h
  omega
theorem cps_app (a b : Str) : (a ++ b).cps.toList = a.cps.toList ++ b.cps.toList := by
  show (a.cps ++ b.cps).toList = _
  simp
theorem len_cps (a : Str) : a.length = a.cps.toList.length := by
  show a.cps.size = _
  simp
theorem len_app (a b : Str) : (a ++ b).length = a.length + b.length := by
  rw [len_cps, len_cps, len_cps, cps_app, List.length_append]
def IsName (f : FD) : Prop := ∀ {s : Str}, NmOk s → VP f [.str s] (.bl true)
theorem isname_ok : IsName P_is_name := fun {s} h => by
  have hb := h.b
  have ha := h.a
  have hszl : szl = 16777216 := rfl
  refine vp_run ?_
  walk_at "v0"
  walk_at "v"
  refine f_lenS (by omega) ?_
  walk_at "v"
  · refine vE_Lc false (vi_seqS ?_)
    walk_at "v"
    refine ⟨_, rfl, ?_⟩
    refine lc_map (f := fun _ => .bl true) (by rw [← len_cps]; omega) (fun c hc => ⟨_, tg_n, ?_⟩) ?_
    · dsimp only [wipeY, List.set]
      walk_at "v"
      refine c_inS ?_
      rw [let_in c (h.c c hc)]
      exact ⟨rfl, rfl⟩
    · refine NL.fz ?_
      have e : s.cps.toList.map (fun _ => Y.bl true) = (s.cps.toList.map fun _ => true).map .bl := by rw [List.map_map]; rfl
      rw [e]
      walk_at "v"
      refine f_all (.lst _) ?_
      walk_at "v"
      rw [show (s.cps.toList.map fun _ => true).all id = true by simp]
  · rename_i h1 h2
    exact absurd (by omega) h2
  · rename_i h1
    exact absurd (by omega) h1
def AreNames (f : FD) : Prop := ∀ {ws : List Str}, ws ≠ [] → ws.length ≤ 100 → (∀ w ∈ ws, NmOk w) → ws.Nodup → VP f [.lst (ws.map .str)] (.bl true)
theorem nodup_keys {ws : List Str} (h : ws.Nodup) : (ws.map (Sum.inr : Str → L2.Key)).Nodup := by
  rw [List.nodup_iff_pairwise_ne] at h ⊢
  rw [List.pairwise_map]
  exact h.imp fun hne z => hne (Sum.inr.inj z)
theorem arenames_ok {c : FD} (hc : IsName c) : AreNames (P_are_names c) := fun {ws} hne hl hw hn => by
  have hszl : szl = 16777216 := rfl
  have h0 : 0 < ws.length := List.length_pos_iff.mpr hne
  refine vp_run ?_
  walk_at "v0"
  walk_at "v"
  · rename_i h
    rw [List.length_map] at h
    exact absurd h (by omega)
  · refine vE_Lc false (vi_seq ?_)
    walk_at "v"
    refine ⟨_, _, .lst _, ?_⟩
    refine lc_map (f := fun _ => .bl true) (by omega) (fun w hm => ⟨_, tg_n, ?_⟩) ?_
    · dsimp only [wipeY, List.set]
      walk_at "v"
      refine vc_p (hc (hw w hm)) ?_
      exact ⟨rfl, rfl⟩
    · refine NL.fz ?_
      have e : ws.map (fun _ => Y.bl true) = (ws.map fun _ => true).map .bl := by rw [List.map_map]; rfl
      rw [e]
      walk_at "v"
      refine f_all (.lst _) ?_
      rw [show (ws.map fun _ => true).all id = true by simp]
      walk_at "v"
      have ek : ws.map Y.str = (ws.map (Sum.inr : Str → L2.Key)).map yK := by rw [List.map_map]; rfl
      refine f_lenSet (ks := ws.map Sum.inr) (by rw [← ek]; exact .lst _) (by rw [List.length_map]; omega) ?_
      rw [cnt_nodup.mpr (nodup_keys hn)]
      walk_at "v"
      rw [List.length_map, List.length_map, decide_eq_true rfl]
theorem any_mem (ws : List Str) (w : Str) : ((ws.map Y.str).any fun y => eqFY y (.str w)) = decide (w ∈ ws) := by
  rw [Bool.eq_iff_iff, List.any_eq_true, decide_eq_true_eq]
  constructor
  · rintro ⟨y, h1, h2⟩
    obtain ⟨v, hv, rfl⟩ := List.mem_map.mp h1
    have e : v = w := eq_of_beq h2
    rwa [← e]
  · exact fun h => ⟨.str w, List.mem_map.mpr ⟨w, h, rfl⟩, beq_self_eq_true w⟩
def shorter (ws : List Str) (n : Nat) : Nat := (ws.filter fun v => decide (v.length < n)).length
theorem shorter_le (ws : List Str) (n : Nat) : shorter ws n ≤ ws.length := List.length_filter_le ..
theorem shorter_mono (ws : List Str) (n : Nat) : shorter ws n ≤ shorter ws (n + 1) := by
  unfold shorter
  induction ws with
  | nil => exact Nat.le_refl _
  | cons v ws ih =>
    rw [List.filter_cons, List.filter_cons]
    split
    · rename_i h
      rw [if_pos (by simp at h ⊢; omega)]
      simpa using ih
    · split
      · simp; omega
      · exact ih
theorem shorter_succ {ws : List Str} {n : Nat} {v : Str} (hv : v ∈ ws) (hl : v.length = n) : shorter ws n + 1 ≤ shorter ws (n + 1) := by
  unfold shorter
  induction ws with
  | nil => cases hv
  | cons u ws ih =>
    rw [List.filter_cons, List.filter_cons]
    rcases List.mem_cons.mp hv with e | hv
    · subst e
      rw [if_neg (by simp; omega), if_pos (by simp; omega)]
      have := shorter_mono ws n
      unfold shorter at this
      simp
      omega
    · have := ih hv
      split
      · rename_i h
        rw [if_pos (by simp at h ⊢; omega)]
        simp
        omega
      · split
        · simp; omega
        · exact this
def LNames (f : FD) : Prop := ∀ (n : Nat) (xs : List Int) (m : Nat), m ≤ 4 → VF f [.own n, .int m] [(n, WI xs)] (fun y o => ∃ (ws : List Str) (xs' : List Int), y = .lst (ws.map .str) ∧ ws.length = m ∧ (∀ w ∈ ws, NmOk w) ∧ ws.Nodup ∧ o = [(n, WI xs')]) noq
theorem app_let {s : Str} {c : Nat} (h : ∀ c ∈ s.cps.toList, isLet c = true) (hc : isLet c = true) : ∀ d ∈ (s ++ (⟨#[c]⟩ : Str)).cps.toList, isLet d = true := fun d hd => by
  rw [cps_app] at hd
  rcases List.mem_append.mp hd with hd | hd
  · exact h d hd
  · have : d = c := by simpa using hd
    rw [this]; exact hc
theorem let_of {r : Int} (h0 : 0 ≤ r) (h1 : r < 26) : isLet (97 + r.toNat) = true := by
  unfold isLet
  rw [decide_eq_true (by omega), decide_eq_true (by omega)]
  rfl
theorem lnames_ok {t : FD} (ht : Take t) : LNames (P__law_names t) := fun n xs m hm => by
  have hszl : szl = 16777216 := rfl
  refine vf_run ?_
  walk_at "v0"
  walk_at "vl"
  refine vE_Lst true ?_
  walk_at "v"
  rename_i q hq
  refine vs_for (vi_range1 ?_)
  walk_at "v"
  refine ⟨_, rfl, ⟨by omega, by omega⟩, ?_⟩
  refine for_rng (fun k E o => ∃ (ws : List Str) (ys : List Int) (a b c : Option Y), o = [(q, .lst (ws.map .str)), (n, WI ys)] ∧ ws.length = k ∧ (∀ w ∈ ws, NmOk w) ∧ ws.Nodup ∧ E = [some (.own n), some (.int m), some (.str abc), some (.own q), a, b, c]) ⟨[], xs, _, _, _, rfl, rfl, fun _ h => (by cases h), List.nodup_nil, rfl⟩ (fun k E o hk ⟨ws, ys, a, b, c, eo, hwl, hws, hnd, eE⟩ => ?_) (fun E o ⟨ws, ys, a, b, c, eo, hwl, hws, hnd, eE⟩ => ?_)
  · subst eo; subst eE
    rw [Int.zero_add]
    have hk4 : k < 4 := by omega
    refine ⟨_, tg_n, ?_⟩
    walk_at "set"
    walk_at "v"
    refine take_call ht (.there .here) (by decide) (fun r xs2 r0 r1 => ?_)
    refine x_str abc_len (abc_at r0 r1) ?_
    walk_at "v"
    refine vs_for (vi_range1 ?_)
    walk_at "v"
    refine take_call ht (.there .here) (by decide) (fun r2 xs3 s0 s1 => ?_)
    refine ⟨_, rfl, ⟨by omega, by omega⟩, ?_⟩
    refine for_rng (fun j E o => ∃ (w : Str) (zs : List Int) (c : Option Y), o = [(q, .lst (ws.map .str)), (n, WI zs)] ∧ w.length = 1 + j ∧ (∀ c ∈ w.cps.toList, isLet c = true) ∧ E = [some (.own n), some (.int m), some (.str abc), some (.own q), some (.int (k : Nat)), some (.str w), c]) ⟨⟨#[97 + r.toNat]⟩, xs3, _, rfl, rfl, fun d hd => by
      have : d = 97 + r.toNat := by simpa using hd
      rw [this]; exact let_of r0 r1, rfl⟩ (fun j E o hj ⟨w, zs, c, eo, hl, hlet, eE⟩ => ?_) (fun E o ⟨w, zs, c, eo, hl, hlet, eE⟩ => ?_)
    · subst eo; subst eE
      have hj4 : j < 4 := by omega
      refine ⟨_, tg_n, ?_⟩
      walk_at "set"
      walk_at "v"
      refine take_call ht (.there .here) (by decide) (fun r xs2 r0 r1 => ?_)
      refine x_str abc_len (abc_at r0 r1) ?_
      refine b_addS (by show w.length + 1 ≤ szl; omega) ?_
      walk_at "v"
      exact ⟨_, xs2, _, rfl, by rw [len_app]; show w.length + 1 = _; omega, app_let hlet (let_of r0 r1), rfl⟩
    · subst eo; subst eE
      have hl4 : w.length ≤ 4 := by omega
      have hl1 : 1 ≤ w.length := by omega
      walk_at "v"
      refine vs_for (vi_range1 ?_)
      walk_at "v"
      refine ⟨_, rfl, ⟨by decide, by decide⟩, ?_⟩
      have hkc : L2.atI abc.cps.toList ((k : Nat) : Int) = some (97 + ((k : Nat) : Int).toNat) := abc_at (by omega) (by omega)
      refine for_rng (fun j E o => ∃ (v : Str) (c : Option Y), o = [(q, .lst (ws.map .str)), (n, WI zs)] ∧ 1 ≤ v.length ∧ (∀ c ∈ v.cps.toList, isLet c = true) ∧ (v ∉ ws ∧ v.length ≤ 8 ∨ v.length = w.length + j ∧ j ≤ shorter ws v.length) ∧ E = [some (.own n), some (.int m), some (.str abc), some (.own q), some (.int (k : Nat)), some (.str v), c]) ⟨w, _, rfl, hl1, hlet, .inr ⟨rfl, Nat.zero_le _⟩, rfl⟩ (fun j E o hj ⟨v, c, eo, hv1, hvl, hor, eE⟩ => ?_) (fun E o ⟨v, c, eo, hv1, hvl, hor, eE⟩ => ?_)
      · subst eo; subst eE
        have hv12 : v.length ≤ 12 := by
          rcases hor with h | h
          · omega
          · have := shorter_le ws v.length; omega
        refine ⟨_, tg_n, ?_⟩
        walk_at "set"
        walk_at "v"
        refine c_inL (.own .here) rfl (by rw [List.all_map]; simp; exact fun _ _ => rfl) ?_
        rw [any_mem]
        walk_at "v"
        · rename_i hin
          refine x_str abc_len hkc ?_
          refine b_addS (by show v.length + 1 ≤ szl; omega) ?_
          walk_at "v"
          have el : (v ++ (⟨#[97 + ((k : Nat) : Int).toNat]⟩ : Str)).length = v.length + 1 := len_app ..
          refine ⟨_, _, rfl, by rw [el]; omega, app_let hvl (let_of (by omega) (by omega)), .inr ?_, rfl⟩
          rcases hor with h | h
          · exact absurd hin h.1
          · rw [el]
            have := shorter_succ hin rfl
            omega
        · rename_i hin
          refine ⟨v, _, rfl, hv1, hvl, .inl ⟨hin, ?_⟩, rfl⟩
          rcases hor with h | h
          · exact h.2
          · have := shorter_le ws v.length; omega
      · subst eo; subst eE
        obtain ⟨hni, hv8⟩ : v ∉ ws ∧ v.length ≤ 8 := by
          rcases hor with h | h
          · exact h
          · have := shorter_le ws v.length
            have h8 : 8 ≤ shorter ws v.length := h.2
            omega
        walk_at "v"
        refine ⟨chk_L (.own .here), ?_⟩
        walk_at "v"
        refine m_append' .here (by rw [List.length_map]; omega) ?_
        walk_at "v"
        refine ⟨ws ++ [v], zs, _, _, _, by rw [List.map_append]; rfl, by simp [hwl], fun u hu => ?_, ?_, rfl⟩
        · rcases List.mem_append.mp hu with hu | hu
          · exact hws u hu
          · rw [List.mem_singleton.mp hu]; exact ⟨hv1, by omega, hvl⟩
        · rw [List.nodup_append]
          refine ⟨hnd, by simp, fun a ha b hb => ?_⟩
          rw [List.mem_singleton.mp hb]
          exact fun z => hni (z ▸ ha)
  · subst eo; subst eE
    walk_at "v"
    exact ret_f .here (ret_v (List.Sublist.refl _) ⟨ws, ys, rfl, by omega, hws, hnd, rfl⟩)
end
section
noncomputable def P__law_fraction_2 (c__law_make : FD) (c__law_take : FD) : FD := fnRun (sSq (sAs (dCall c__law_take (aC (dV 0) (aC (dC (.int 8)) aN)) []) (ofG (gN 2)))
    (sSq (sIf (tB (dCmp .Eq (dV 2) (dC (.int 0)))) (sRt (dTup (aC (dC (.int 0)) (aC (dC (.int 1)) aN)))) sNx)
    (sSq (sIf (tB (dCmp .Eq (dV 2) (dC (.int 1)))) (sRt (dCall c__law_make (aC (dCall c__law_take (aC (dV 0) (aC (dB .Pow (dC (.int 10)) (dC (.int 9))) aN)) []) (aC (dB .Add (dC (.int 1)) (dCall c__law_take (aC (dV 0) (aC (dB .Pow (dC (.int 10)) (dC (.int 6))) aN)) [])) aN)) [])) sNx)
    (sSq (sAs (dCall c__law_make (aC (dB .Add (dCall c__law_take (aC (dV 0) (aC (dC (.int 13)) aN)) []) (dV 1)) (aC (dB .Add (dC (.int 1)) (dCall c__law_take (aC (dV 0) (aC (dC (.int 3)) aN)) [])) aN)) []) (ofG (gN 3)))
    (sRt (dV 3)))))) 4
noncomputable def P__law_kinds (c__law_fraction : FD) (c__law_names : FD) (c__law_take : FD) : FD := fnRun (sSq (sAs (dLst aN) (ofG (gN 3)))
    (sSq (sFor (iSeq (dCall c__law_names (aC (dV 0) (aC (dB .Add (dC (.int 1)) (dCall c__law_take (aC (dV 0) (aC (dV 1) aN)) [])) aN)) [])) (gN 4) (sSq (sAs (dLc (iRange1 (dV 2)) (gN 6) tY (dCall c__law_fraction (aC (dV 0) (aC (dU .USub (dC (.int 4))) aN)) []) [6]) (ofG (gN 5)))
    (sEx (dM chkL mAppend (dV 3) (aC (dTup (aC (dV 4) (aC (dCall c__law_fraction (aC (dV 0) (aC (dC (.int 0)) aN)) []) (aC (dCall c__law_fraction (aC (dV 0) (aC (dU .USub (dC (.int 8))) aN)) []) (aC (dV 5) aN))))) aN)))))
    (sRt (dV 3)))) 7
noncomputable def P__law_swap (c__law_take : FD) : FD := fnRun (sSq (sAs (dCall fLRng (aC (dV 1) aN) []) (ofG (gN 2)))
    (sSq (sAs (dCall c__law_take (aC (dV 0) (aC (dV 1) aN)) []) (ofG (gN 3)))
    (sSq (sAs (dCall c__law_take (aC (dV 0) (aC (dV 1) aN)) []) (ofG (gN 4)))
    (sSq (sAs (dV 4) (gIx (dV 2) (dV 3)))
    (sSq (sAs (dV 3) (gIx (dV 2) (dV 4)))
    (sRt (dV 2))))))) 5
noncomputable def P__law_needs (c__law_fraction : FD) (c__law_swap : FD) (c__law_take : FD) : FD := fnRun (sSq (sAs (dLst aN) (ofG (gN 3)))
    (sSq (sFor (iSeq (dLst (aC (dC (.str "part")) (aC (dC (.str "budget")) (aC (dC (.str "even")) (aC (dC (.str "bound")) aN)))))) (gN 4) (sIf (tB (dCmp .Eq (dCall c__law_take (aC (dV 0) (aC (dC (.int 3)) aN)) []) (dC (.int 0)))) (sIf (tB (dCmp .Eq (dV 4) (dC (.str "bound")))) (sEx (dM chkL mAppend (dV 3) (aC (dTup (aC (dV 4) (aC (dCall c__law_fraction (aC (dV 0) (aC (dC (.int 0)) aN)) []) aN))) aN))) (sEx (dM chkL mAppend (dV 3) (aC (dTup (aC (dV 4) aN)) aN)))) sNx))
    (sSq (sFor (iRange1 (dV 1)) (gN 5) (sFor (iRange2 (dB .Add (dV 5) (dC (.int 1))) (dV 1)) (gN 6) (sIf (tB (dCmp .Eq (dCall c__law_take (aC (dV 0) (aC (dC (.int 3)) aN)) []) (dC (.int 0)))) (sEx (dM chkL mAppend (dV 3) (aC (dTup (aC (dC (.str "envy")) (aC (dV 5) (aC (dV 6) (aC (dCall c__law_swap (aC (dV 0) (aC (dV 2) aN)) []) aN))))) aN))) sNx)))
    (sSq (sFor (iRange1 (dCall c__law_take (aC (dV 0) (aC (dC (.int 3)) aN)) [])) (gN 7) (sSq (sAs (dLc (iRange1 (dV 2)) (gN 10) (tB (dCmp .Eq (dCall c__law_take (aC (dV 0) (aC (dC (.int 2)) aN)) []) (dC (.int 1)))) (dV 10) [10]) (ofG (gN 8)))
    (sIf (tB (dCmp .Gt (dCall fLen (aC (dV 8) aN) []) (dC (.int 0)))) (sEx (dM chkL mAppend (dV 3) (aC (dTup (aC (dC (.str "order")) (aC (dCall c__law_take (aC (dV 0) (aC (dV 1) aN)) []) (aC (dV 8) aN)))) aN))) sNx)))
    (sSq (sAs (dCall fList (aC (dV 3) aN) []) (ofG (gN 9)))
    (sRt (dLc (iRange1 (dCall fLen (aC (dV 3) aN) [])) (gN 7) tY (dM chkL mPopAt (dV 9) (aC (dCall c__law_take (aC (dV 0) (aC (dCall fLen (aC (dV 9) aN) []) aN)) []) aN)) [7]))))))) 11
noncomputable def P__law_game (c__law_kinds : FD) (c__law_names : FD) (c__law_needs : FD) (c__law_take : FD) : FD := fnRun (sSq (sAs (dCall c__law_names (aC (dV 0) (aC (dB .Add (dC (.int 1)) (dCall c__law_take (aC (dV 0) (aC (dC (.int 4)) aN)) [])) aN)) []) (ofG (gN 3)))
    (sSq (sAs (dLst aN) (ofG (gN 4)))
    (sSq (sFor (iSeq (dCall c__law_names (aC (dV 0) (aC (dB .Add (dC (.int 1)) (dCall c__law_take (aC (dV 0) (aC (dV 1) aN)) [])) aN)) [])) (gN 5) (sEx (dM chkL mAppend (dV 4) (aC (dTup (aC (dV 5) (aC (dCall c__law_kinds (aC (dV 0) (aC (dV 2) (aC (dCall fLen (aC (dV 3) aN) []) aN))) []) aN))) aN))))
    (sSq (sAs (dIx (dLst (aC (dC (.str "total")) (aC (dC (.str "worst")) (aC (dC (.str "paid")) aN)))) (dCall c__law_take (aC (dV 0) (aC (dC (.int 3)) aN)) [])) (ofG (gN 6)))
    (sSq (sAs (dLst (aC (dCmp .Eq (dCall c__law_take (aC (dV 0) (aC (dC (.int 2)) aN)) []) (dC (.int 1))) (aC (dCmp .Eq (dCall c__law_take (aC (dV 0) (aC (dC (.int 2)) aN)) []) (dC (.int 1))) aN))) (ofG (gN 7)))
    (sRt (dLst (aC (dV 4) (aC (dV 3) (aC (dV 6) (aC (dIx (dV 7) (dC (.int 0))) (aC (dIx (dV 7) (dC (.int 1))) (aC (dCall c__law_needs (aC (dV 0) (aC (dCall fLen (aC (dV 4) aN) []) (aC (dCall fLen (aC (dV 3) aN) []) aN))) []) aN))))))))))))) 8
structure Kd where
  nm : Str
  w : Rat
  al : Rat
  ws : List Rat
structure Ag where
  nm : Str
  ks : List Kd
inductive Nd where
  | part | budget | even
  | bound (q : Rat)
  | envy (a b : Nat) (sw : List Nat)
  | order (a : Nat) (ch : List Nat)
structure Gm where
  ags : List Ag
  outs : List Str
  aim : Str
  pay : Bool
  lots : Bool
  nds : List Nd
abbrev gRs (xs : List Rat) : Y := .lst (xs.map yR)
abbrev gIs (ws : List Nat) : Y := .lst (ws.map fun i => .int (i : Nat))
abbrev gSs (ws : List Str) : Y := .lst (ws.map .str)
def yKd (k : Kd) : Y := .tup [.str k.nm, yR k.w, yR k.al, gRs k.ws]
def yAg (a : Ag) : Y := .tup [.str a.nm, .lst (a.ks.map yKd)]
def yNd : Nd → Y
  | .part => .tup [.str "part"]
  | .budget => .tup [.str "budget"]
  | .even => .tup [.str "even"]
  | .bound q => .tup [.str "bound", yR q]
  | .envy a b sw => .tup [.str "envy", .int (a : Nat), .int (b : Nat), gIs sw]
  | .order a ch => .tup [.str "order", .int (a : Nat), gIs ch]
def yGd (g : Gm) : Y := .lst [.lst (g.ags.map yAg), gSs g.outs, .str g.aim, .bl g.pay, .bl g.lots, .lst (g.nds.map yNd)]
structure KdOk (n : Nat) (k : Kd) : Prop where
  nm : NmOk k.nm
  w : Bd 30 k.w
  w0 : 0 ≤ k.w
  al : Bd 30 k.al
  wl : k.ws.length = n
  ws : ABd 30 k.ws
structure AgOk (n : Nat) (a : Ag) : Prop where
  nm : NmOk a.nm
  k1 : 1 ≤ a.ks.length
  k4 : a.ks.length ≤ 4
  kn : (a.ks.map Kd.nm).Nodup
  ks : ∀ k ∈ a.ks, KdOk n k
structure SwOk (n : Nat) (sw : List Nat) : Prop where
  l : sw.length = n
  b : ∀ i, i < n → sw.getD i 0 < n
  s : ∀ i, i < n → sw.getD (sw.getD i 0) 0 = i
structure ChOk (n : Nat) (ch : List Nat) : Prop where
  l : ch ≠ []
  b : ∀ i ∈ ch, i < n
  s : ch.Pairwise (· < ·)
def NdOk (na no : Nat) : Nd → Prop
  | .bound q => Bd 30 q ∧ 0 ≤ q
  | .envy a b sw => a < b ∧ b < na ∧ SwOk no sw
  | .order a ch => a < na ∧ ChOk no ch
  | _ => True
def exN : Nd → Nd → Bool
  | .part, .part => true
  | .budget, .budget => true
  | .even, .even => true
  | .bound _, .bound _ => true
  | .envy a b _, .envy c d _ => decide (a = c) && decide (b = d)
  | _, _ => false
theorem exN_symm (x y : Nd) : exN x y = exN y x := by
  cases x <;> cases y <;> simp [exN, eq_comm]
abbrev NoEx (nds : List Nd) : Prop := nds.Pairwise fun x y => exN x y = false
structure GmOk (g : Gm) : Prop where
  a1 : 1 ≤ g.ags.length
  a3 : g.ags.length ≤ 3
  an : (g.ags.map Ag.nm).Nodup
  ag : ∀ a ∈ g.ags, AgOk g.outs.length a
  o1 : 1 ≤ g.outs.length
  o4 : g.outs.length ≤ 4
  on : g.outs.Nodup
  os : ∀ w ∈ g.outs, NmOk w
  am : g.aim = "total" ∨ g.aim = "worst" ∨ g.aim = "paid"
  nl : g.nds.length ≤ 12
  nd : ∀ d ∈ g.nds, NdOk g.ags.length g.outs.length d
  nx : NoEx g.nds
def LFr (f : FD) : Prop := ∀ (n : Nat) (xs : List Int) (lo : Int), -8 ≤ lo → lo ≤ 0 → VF f [.own n, .int lo] [(n, WI xs)] (fun y o => ∃ (q : Rat) (xs' : List Int), y = yR q ∧ Bd 30 q ∧ (lo = 0 → 0 ≤ q) ∧ o = [(n, WI xs')]) noq
theorem lfr_ok {m t : FD} (hm : LMake m) (ht : Take t) : LFr (P__law_fraction_2 m t) := fun n xs lo h0 h1 => by
  refine vf_run ?_
  walk_at "v0"
  walk_at "v"
  refine take_call ht .here (by decide) (fun r xs1 r0 r1 => ?_)
  walk_at "v"
  · exact ret_v (List.Sublist.refl _) ⟨0, xs1, rfl, Bd.zero.mono (by decide), fun _ => Rat.le_refl, rfl⟩
  · refine take_call ht .here (by decide) (fun p xs2 p0 p1 => ?_)
    walk_at "v"
    refine take_call ht .here (by decide) (fun q xs3 q0 q1 => ?_)
    have e9 : (10 : Int) ^ Int.toNat 9 = 1000000000 := by decide
    have e6 : (10 : Int) ^ Int.toNat 6 = 1000000 := by decide
    rw [e9] at p1
    rw [e6] at q1
    walk_at "v"
    refine vc_p (hm p (1 + q) 30 (by omega) (by omega) (by omega) (by decide)) ?_
    walk_at "v"
    exact ret_v (List.Sublist.refl _) ⟨_, xs3, rfl, Bd.divInt (by omega) (by omega) (by omega), fun _ => Rat.divInt_nonneg p0 (by omega), rfl⟩
  · refine take_call ht .here (by decide) (fun p xs2 p0 p1 => ?_)
    walk_at "v"
    refine take_call ht .here (by decide) (fun q xs3 q0 q1 => ?_)
    walk_at "v"
    refine vc_p (hm (p + lo) (1 + q) 5 (by omega) (by omega) (by omega) (by decide)) ?_
    walk_at "v"
    exact ret_v (List.Sublist.refl _) ⟨_, xs3, rfl, (Bd.divInt (k := 5) (by omega) (by omega) (by omega)).mono (by decide), fun e => Rat.divInt_nonneg (by omega) (by omega), rfl⟩
theorem fr_call {f : FD} (h : LFr f) {o : OC} {n : Nat} {xs : List Int} {k : C → OC} {lo : Int} {Q : Y → OC → Prop} {X : XQ} (a : At o n (WI xs) k) (h0 : -8 ≤ lo) (h1 : lo ≤ 0) (q : ∀ r xs', Bd 30 r → (lo = 0 → 0 ≤ r) → Q (yR r) (k (WI xs'))) : VF f [.own n, .int lo] o Q X :=
  vc_own a (h n xs lo h0 h1) (fun y o1 ⟨r, xs', e1, e3, e4, e2⟩ => ⟨_, e2, by subst e1; exact q r xs' e3 e4⟩) (fun _ _ z => z.elim)
theorem names_call {f : FD} (h : LNames f) {o : OC} {n m : Nat} {xs : List Int} {k : C → OC} {Q : Y → OC → Prop} {X : XQ} (a : At o n (WI xs) k) (hm : m ≤ 4) (q : ∀ ws xs', ws.length = m → (∀ w ∈ ws, NmOk w) → ws.Nodup → Q (gSs ws) (k (WI xs'))) : VF f [.own n, .int m] o Q X :=
  vc_own a (h n xs m hm) (fun y o1 ⟨r, xs', e1, e3, e4, e5, e2⟩ => ⟨_, e2, by subst e1; exact q r xs' e3 e4 e5⟩) (fun _ _ z => z.elim)
def LKinds (f : FD) : Prop := ∀ (n : Nat) (xs : List Int) (most no : Nat), 1 ≤ most → most ≤ 3 → no ≤ 100 → VF f [.own n, .int most, .int no] [(n, WI xs)] (fun y o => ∃ (ks : List Kd) (xs' : List Int), y = .lst (ks.map yKd) ∧ 1 ≤ ks.length ∧ ks.length ≤ most ∧ (ks.map Kd.nm).Nodup ∧ (∀ k ∈ ks, KdOk no k) ∧ o = [(n, WI xs')]) noq
theorem lkinds_ok {fr nm t : FD} (hf : LFr fr) (hn : LNames nm) (ht : Take t) : LKinds (P__law_kinds fr nm t) := fun n xs most no h1 h3 hno => by
  have hszl : szl = 16777216 := rfl
  refine vf_run ?_
  walk_at "v0"
  walk_at "vl"
  refine vE_Lst true ?_
  walk_at "v"
  rename_i q hq
  refine vs_for (vi_seq ?_)
  walk_at "v"
  refine take_call ht (.there .here) (by omega) (fun r xs1 r0 r1 => ?_)
  walk_at "v"
  have er : 1 + r = ((1 + r.toNat : Nat) : Int) := by omega
  rw [er]
  refine names_call hn (.there .here) (by omega) (fun ws xs2 hwl hws hnd => ?_)
  refine ⟨_, _, .lst _, ?_⟩
  refine for_mapI (fun t E o => ∃ (ks : List Kd) (ys : List Int) (a b c : Option Y), o = [(q, .lst (ks.map yKd)), (n, WI ys)] ∧ ks.map Kd.nm = ws.take t ∧ (∀ k ∈ ks, KdOk no k) ∧ E = [some (.own n), some (.int most), some (.int no), some (.own q), a, b, c]) ⟨[], xs2, _, _, _, rfl, rfl, fun _ h => (by cases h), rfl⟩ (fun t ht' E o ⟨ks, ys, a, b, c, eo, hnm, hks, eE⟩ => ?_) (fun E o ⟨ks, ys, a, b, c, eo, hnm, hks, eE⟩ => ?_)
  · subst eo; subst eE
    have hkl : ks.length = t := by
      have := congrArg List.length hnm
      rw [List.length_map, List.length_take] at this
      omega
    refine ⟨_, tg_n, ?_⟩
    walk_at "set"
    walk_at "v"
    refine vE_Lc false (vi_range1 ?_)
    walk_at "v"
    refine ⟨_, rfl, ⟨by omega, by omega⟩, ?_⟩
    have hlen : (rngY 0 ((no : Int)).toNat).length = no := by unfold rngY; simp
    refine lc_ix (fun i acc o => ∃ (qs : List Rat) (xs' : List Int), acc = qs.map yR ∧ qs.length = i ∧ ABd 30 qs ∧ o = [(q, .lst (ks.map yKd)), (n, WI xs')]) (by rw [hlen]; omega) ⟨[], ys, rfl, rfl, fun _ h => (by cases h), rfl⟩ (fun i h acc o _ ⟨qs, xs', ea, hl, hb, eo⟩ => ?_) (fun acc o ⟨qs, xs', ea, hl, hb, eo⟩ => ?_)
    · subst eo; subst ea
      refine ⟨_, tg_n, ?_⟩
      dsimp only [wipeY, List.set]
      walk_at "v"
      refine fr_call hf (.there .here) (by decide) (by decide) (fun r xs2 hr _ => ?_)
      refine ⟨qs ++ [r], xs2, by simp, by simp [hl], fun x hx => ?_, rfl⟩
      rcases List.mem_append.mp hx with hx | hx
      · exact hb x hx
      · rw [List.mem_singleton.mp hx]; exact hr
    · subst eo; subst ea
      rw [hlen] at hl
      refine NL.fz ?_
      walk_at "v"
      refine ⟨chk_L (.own .here), ?_⟩
      walk_at "v"
      refine fr_call hf (.there .here) (by decide) (by decide) (fun w xs3 hw hw0 => ?_)
      walk_at "v"
      refine fr_call hf (.there .here) (by decide) (by decide) (fun al xs4 hal _ => ?_)
      walk_at "v"
      refine m_append' .here (by rw [List.length_map]; omega) ?_
      walk_at "v"
      refine ⟨ks ++ [⟨ws[t], w, al, qs⟩], xs4, _, _, _, by rw [List.map_append]; rfl, ?_, fun k hk => ?_, rfl⟩
      · rw [List.map_append, hnm, List.take_succ_eq_append_getElem ht']
        rfl
      · rcases List.mem_append.mp hk with hk | hk
        · exact hks k hk
        · rw [List.mem_singleton.mp hk]
          exact ⟨hws _ (List.getElem_mem ht'), hw, hw0 rfl, hal, hl, hb⟩
  · subst eo; subst eE
    rw [List.take_length] at hnm
    have hkl : ks.length = ws.length := by rw [← hnm, List.length_map]
    walk_at "v"
    exact ret_f .here (ret_v (List.Sublist.refl _) ⟨ks, ys, rfl, by omega, by omega, by rw [hnm]; exact hnd, hks, rfl⟩)
theorem swap_sw {c f s : Nat} (hf : f < c) (hs : s < c) : SwOk c (((List.range c).set f s).set s f) := by
  have key : ∀ i, i < c → (((List.range c).set f s).set s f).getD i 0 = if i = s then f else if i = f then s else i := fun i hi => by
    simp only [List.getD, List.getElem?_set, List.length_set, List.length_range, List.getElem?_range hi]
    by_cases h1 : s = i
    · subst h1; simp [hs]
    · by_cases h2 : f = i
      · subst h2; simp [h1, Ne.symm h1, hf]
      · simp [h1, h2, Ne.symm h1, Ne.symm h2]
  refine ⟨by simp, fun i hi => ?_, fun i hi => ?_⟩
  · rw [key i hi]
    split
    · exact hf
    · split
      · exact hs
      · exact hi
  · rw [key i hi]
    by_cases h1 : i = s
    · rw [if_pos h1, key f hf]
      by_cases h2 : f = s
      · rw [if_pos h2]; omega
      · rw [if_neg h2, if_pos rfl]; omega
    · rw [if_neg h1]
      by_cases h2 : i = f
      · rw [if_pos h2, key s hs, if_pos rfl]; omega
      · rw [if_neg h2, key i hi, if_neg h1, if_neg h2]
def LSwap (f : FD) : Prop := ∀ (n : Nat) (xs : List Int) (c : Nat), 1 ≤ c → c ≤ 1000 → VF f [.own n, .int c] [(n, WI xs)] (fun y o => ∃ (sw : List Nat) (xs' : List Int), y = gIs sw ∧ SwOk c sw ∧ o = [(n, WI xs')]) noq
theorem rng_ints (c : Nat) : rngY 0 c = (List.range c).map fun i => Y.int (i : Nat) := by
  unfold rngY
  refine List.map_congr_left fun i _ => ?_
  rw [Int.zero_add]
theorem lswap_ok {t : FD} (ht : Take t) : LSwap (P__law_swap t) := fun n xs c h1 hc => by
  have hszl : szl = 16777216 := rfl
  refine vf_run ?_
  walk_at "v0"
  walk_at "v"
  refine f_lrng1 true (by omega) (NL.ow fun q hq => ?_)
  walk_at "v"
  refine take_call ht (.there .here) (by omega) (fun f xs1 f0 f1 => ?_)
  walk_at "v"
  refine take_call ht (.there .here) (by omega) (fun s xs2 s0 s1 => ?_)
  obtain ⟨f, rfl⟩ : ∃ k : Nat, f = k := ⟨f.toNat, by omega⟩
  obtain ⟨s, rfl⟩ : ∃ k : Nat, s = k := ⟨s.toNat, by omega⟩
  rw [rng_ints]
  walk_at "v"
  refine st_own .here (m := f) (by rw [List.length_map, List.length_range]; exact ixN_nat (by omega)) ?_
  walk_at "v"
  refine st_own .here (m := s) (by rw [List.length_set, List.length_map, List.length_range]; exact ixN_nat (by omega)) ?_
  have e : ((((List.range c).map fun i => Y.int (i : Nat)).set f (.int (s : Nat))).set s (.int (f : Nat))) = (((List.range c).set f s).set s f).map fun i => Y.int (i : Nat) := by
    rw [List.map_set, List.map_set]
  rw [e]
  walk_at "v"
  exact ret_f .here (ret_v (List.Sublist.refl _) ⟨_, xs2, rfl, swap_sw (by omega) (by omega), rfl⟩)
def sIdx : Nd → Nat
  | .part => 0
  | .budget => 1
  | .even => 2
  | .bound _ => 3
  | _ => 9
theorem ex_single {x y : Nd} (h : sIdx x ≠ sIdx y) (h2 : sIdx y ≤ 3) : exN x y = false := by
  cases x <;> cases y <;> simp [exN, sIdx] at * 
def envB (a b : Nat) : Nd → Prop
  | .envy x y _ => x < a ∨ x = a ∧ y < b
  | .order _ _ => False
  | _ => True
theorem ex_envy {x : Nd} {a b : Nat} {sw : List Nat} (h : envB a b x) : exN x (.envy a b sw) = false := by
  cases x with
  | envy c d s =>
    simp only [envB] at h
    simp only [exN, Bool.and_eq_false_iff, decide_eq_false_iff_not]
    omega
  | _ => rfl
theorem ex_order {x : Nd} {a : Nat} {ch : List Nat} : exN x (.order a ch) = false := by
  cases x <;> rfl
theorem noex_snoc {nds : List Nd} {d : Nd} (h : NoEx nds) (hd : ∀ x ∈ nds, exN x d = false) : NoEx (nds ++ [d]) := by
  unfold NoEx
  rw [List.pairwise_append]
  exact ⟨h, List.pairwise_singleton _ _, fun x hx y hy => by rw [List.mem_singleton.mp hy]; exact hd x hx⟩
theorem erase_map {α β : Type} (f : α → β) : ∀ (l : List α) (i : Nat), (l.map f).eraseIdx i = (l.eraseIdx i).map f
  | [], _ => rfl
  | _ :: _, 0 => rfl
  | a :: l, i + 1 => congrArg (f a :: ·) (erase_map f l i)
theorem erase_perm' {α : Type} : ∀ (l : List α) (i : Nat) (h : i < l.length), (l[i] :: l.eraseIdx i).Perm l
  | _ :: _, 0, _ => .refl _
  | a :: l, i + 1, h => (List.Perm.swap ..).trans ((erase_perm' l i (by simpa using h)).cons a)
def LNeeds (f : FD) : Prop := ∀ (n : Nat) (xs : List Int) (na no : Nat), 1 ≤ na → na ≤ 3 → 1 ≤ no → no ≤ 100 → VF f [.own n, .int na, .int no] [(n, WI xs)] (fun y o => ∃ (nds : List Nd) (xs' : List Int), y = .lst (nds.map yNd) ∧ nds.length ≤ 12 ∧ (∀ d ∈ nds, NdOk na no d) ∧ NoEx nds ∧ o = [(n, WI xs')]) noq
theorem lneeds_ok {fr sw t : FD} (hf : LFr fr) (hs : LSwap sw) (ht : Take t) : LNeeds (P__law_needs fr sw t) := fun n xs na no a1 a3 o1 o100 => by
  have hszl : szl = 16777216 := rfl
  refine vf_run ?_
  walk_at "v0"
  walk_at "vl"
  refine vE_Lst true ?_
  walk_at "v"
  rename_i q hq
  refine vs_for (vi_seq ?_)
  walk_at "v"
  refine ⟨_, _, .lst _, ?_⟩
  refine for_ix (fun t E o => ∃ (nds : List Nd) (ys : List Int) (a : Option Y), o = [(q, .lst (nds.map yNd)), (n, WI ys)] ∧ nds.length ≤ t ∧ (∀ d ∈ nds, NdOk na no d) ∧ (∀ d ∈ nds, sIdx d < t ∧ envB 0 0 d) ∧ NoEx nds ∧ E = [some (.own n), some (.int na), some (.int no), some (.own q), a, none, none, none, none, none, none]) ⟨[], xs, _, rfl, Nat.le_refl _, fun _ h => (by cases h), fun _ h => (by cases h), .nil, rfl⟩ (fun t ht' E o ⟨nds, ys, a, eo, hl, hok, hix, hnx, eE⟩ => ?_) (fun E o ⟨nds, ys, a, eo, hl, hok, hix, hnx, eE⟩ => ?_)
  · subst eo; subst eE
    have ht4 : t < 4 := ht'
    have fin : ∀ (d : Nd) (zs : List Int) (o : OC) (E : Ey), sIdx d = t → envB 0 0 d → NdOk na no d → o = [(q, .lst (nds.map yNd ++ [yNd d])), (n, WI zs)] → (∃ a : Option Y, E = [some (.own n), some (.int na), some (.int no), some (.own q), a, none, none, none, none, none, none]) →
        ∃ (nds : List Nd) (ys : List Int) (a : Option Y), o = [(q, .lst (nds.map yNd)), (n, WI ys)] ∧ nds.length ≤ t + 1 ∧ (∀ d ∈ nds, NdOk na no d) ∧ (∀ d ∈ nds, sIdx d < t + 1 ∧ envB 0 0 d) ∧ NoEx nds ∧ E = [some (.own n), some (.int na), some (.int no), some (.own q), a, none, none, none, none, none, none] := fun d zs o E e1 e2 e3 eo ⟨a, eE⟩ => by
      refine ⟨nds ++ [d], zs, a, by rw [eo, List.map_append]; rfl, by simp; omega, fun x hx => ?_, fun x hx => ?_, noex_snoc hnx fun x hx => ex_single (by have := (hix x hx).1; omega) (by omega), eE⟩
      · rcases List.mem_append.mp hx with hx | hx
        · exact hok x hx
        · rw [List.mem_singleton.mp hx]; exact e3
      · rcases List.mem_append.mp hx with hx | hx
        · exact ⟨Nat.lt_succ_of_lt (hix x hx).1, (hix x hx).2⟩
        · rw [List.mem_singleton.mp hx]; exact ⟨by omega, e2⟩
    have skip : ∀ (zs : List Int) (o : OC) (E : Ey), o = [(q, .lst (nds.map yNd)), (n, WI zs)] → (∃ a : Option Y, E = [some (.own n), some (.int na), some (.int no), some (.own q), a, none, none, none, none, none, none]) →
        ∃ (nds : List Nd) (ys : List Int) (a : Option Y), o = [(q, .lst (nds.map yNd)), (n, WI ys)] ∧ nds.length ≤ t + 1 ∧ (∀ d ∈ nds, NdOk na no d) ∧ (∀ d ∈ nds, sIdx d < t + 1 ∧ envB 0 0 d) ∧ NoEx nds ∧ E = [some (.own n), some (.int na), some (.int no), some (.own q), a, none, none, none, none, none, none] := fun zs o E eo ⟨a, eE⟩ =>
      ⟨nds, zs, a, eo, by omega, hok, fun x hx => ⟨Nat.lt_succ_of_lt (hix x hx).1, (hix x hx).2⟩, hnx, eE⟩
    have hlb : (nds.map yNd).length < szl := by rw [List.length_map]; omega
    have hcase : t = 0 ∨ t = 1 ∨ t = 2 ∨ t = 3 := by omega
    refine ⟨_, tg_n, ?_⟩
    walk_at "set"
    walk_at "v"
    refine take_call ht (.there .here) (by decide) (fun r xs2 r0 r1 => ?_)
    rcases hcase with rfl | rfl | rfl | rfl
    · simp only [List.getElem_cons_zero, List.getElem_cons_succ]
      walk_at "v"
      · refine ⟨chk_L (.own .here), ?_⟩
        walk_at "v"
        refine m_append' .here hlb ?_
        walk_at "v"
        exact fin .part xs2 _ _ rfl trivial trivial rfl ⟨_, rfl⟩
      · exact skip xs2 _ _ rfl ⟨_, rfl⟩
    · simp only [List.getElem_cons_zero, List.getElem_cons_succ]
      walk_at "v"
      · refine ⟨chk_L (.own .here), ?_⟩
        walk_at "v"
        refine m_append' .here hlb ?_
        walk_at "v"
        exact fin .budget xs2 _ _ rfl trivial trivial rfl ⟨_, rfl⟩
      · exact skip xs2 _ _ rfl ⟨_, rfl⟩
    · simp only [List.getElem_cons_zero, List.getElem_cons_succ]
      walk_at "v"
      · refine ⟨chk_L (.own .here), ?_⟩
        walk_at "v"
        refine m_append' .here hlb ?_
        walk_at "v"
        exact fin .even xs2 _ _ rfl trivial trivial rfl ⟨_, rfl⟩
      · exact skip xs2 _ _ rfl ⟨_, rfl⟩
    · simp only [List.getElem_cons_zero, List.getElem_cons_succ]
      walk_at "v"
      · refine ⟨chk_L (.own .here), ?_⟩
        walk_at "v"
        refine fr_call hf (.there .here) (by decide) (by decide) (fun w xs3 hw hw0 => ?_)
        walk_at "v"
        refine m_append' .here hlb ?_
        walk_at "v"
        exact fin (.bound w) xs3 _ _ rfl trivial ⟨hw, hw0 rfl⟩ rfl ⟨_, rfl⟩
      · exact skip xs2 _ _ rfl ⟨_, rfl⟩
  · subst eo; subst eE
    have hl4 : nds.length ≤ 4 := hl
    have hen : ∀ d ∈ nds, envB 0 0 d := fun d hd => (hix d hd).2
    clear hix hl
    walk_at "v"
    refine vs_for (vi_range1 ?_)
    walk_at "v"
    refine ⟨_, rfl, ⟨by omega, by omega⟩, ?_⟩
    refine for_rng (fun k E o => ∃ (nds : List Nd) (ys : List Int) (b c : Option Y), o = [(q, .lst (nds.map yNd)), (n, WI ys)] ∧ nds.length ≤ 4 + 2 * k ∧ (∀ d ∈ nds, NdOk na no d) ∧ (∀ d ∈ nds, envB k 0 d) ∧ NoEx nds ∧ E = [some (.own n), some (.int na), some (.int no), some (.own q), a, b, c, none, none, none, none]) ⟨nds, ys, _, _, rfl, hl4, hok, hen, hnx, rfl⟩ (fun k E o hk ⟨nds, ys, b, c, eo, hl, hok, hen, hnx, eE⟩ => ?_) (fun E o ⟨nds, ys, b, c, eo, hl, hok, hen, hnx, eE⟩ => ?_)
    · subst eo; subst eE
      rw [Int.zero_add]
      have hk3 : k < na := by omega
      refine ⟨_, tg_n, ?_⟩
      walk_at "set"
      refine vs_for (vi_range2 ?_)
      walk_at "v"
      refine ⟨_, _, rfl, rfl, ⟨by omega, by omega⟩, ⟨by omega, by omega⟩, ?_⟩
      refine for_rng (fun j E o => ∃ (nds : List Nd) (ys : List Int) (c : Option Y), o = [(q, .lst (nds.map yNd)), (n, WI ys)] ∧ nds.length ≤ 4 + 2 * k + j ∧ (∀ d ∈ nds, NdOk na no d) ∧ (∀ d ∈ nds, envB k (k + 1 + j) d) ∧ NoEx nds ∧ E = [some (.own n), some (.int na), some (.int no), some (.own q), a, some (.int (k : Nat)), c, none, none, none, none]) ⟨nds, ys, _, rfl, hl, hok, fun d hd => by
        have := hen d hd
        cases d with
        | envy x y s => simp only [envB] at this ⊢; omega
        | order x y => exact this
        | _ => trivial, hnx, rfl⟩ (fun j E o hj ⟨nds, ys, c, eo, hl, hok, hen, hnx, eE⟩ => ?_) (fun E o ⟨nds, ys, c, eo, hl, hok, hen, hnx, eE⟩ => ?_)
      · subst eo; subst eE
        have hb : k + 1 + j < na := by omega
        have eb : ((k : Nat) : Int) + 1 + (j : Int) = ((k + 1 + j : Nat) : Int) := by omega
        rw [eb]
        have up : ∀ d ∈ nds, envB k (k + 1 + (j + 1)) d := fun d hd => by
          have := hen d hd
          cases d with
          | envy x y s => simp only [envB] at this ⊢; omega
          | order x y => exact this
          | _ => trivial
        refine ⟨_, tg_n, ?_⟩
        walk_at "set"
        walk_at "v"
        refine take_call ht (.there .here) (by decide) (fun r xs2 r0 r1 => ?_)
        walk_at "v"
        · refine ⟨chk_L (.own .here), ?_⟩
          walk_at "v"
          refine vc_own (.there .here) (hs n xs2 no o1 (by omega)) (fun y o1 ⟨sw, xs3, ey, hsw, eo⟩ => ⟨_, eo, ?_⟩) (fun _ _ z => z.elim)
          subst ey
          walk_at "v"
          refine m_append' .here (by rw [List.length_map]; omega) ?_
          walk_at "v"
          refine ⟨nds ++ [.envy k (k + 1 + j) sw], xs3, _, by rw [List.map_append]; rfl, by simp; omega, fun x hx => ?_, fun x hx => ?_, noex_snoc hnx fun x hx => ex_envy (hen x hx), rfl⟩
          · rcases List.mem_append.mp hx with hx | hx
            · exact hok x hx
            · rw [List.mem_singleton.mp hx]; exact ⟨by omega, hb, hsw⟩
          · rcases List.mem_append.mp hx with hx | hx
            · exact up x hx
            · rw [List.mem_singleton.mp hx]; exact .inr ⟨rfl, by omega⟩
        · exact ⟨nds, xs2, _, rfl, by omega, hok, up, hnx, rfl⟩
      · subst eo; subst eE
        refine ⟨nds, ys, _, _, rfl, by omega, hok, fun d hd => ?_, hnx, rfl⟩
        have := hen d hd
        cases d with
        | envy x y s => simp only [envB] at this ⊢; omega
        | order x y => exact this
        | _ => trivial
    · subst eo; subst eE
      have hl10 : nds.length ≤ 10 := by omega
      clear hl hen
      walk_at "v"
      refine vs_for (vi_range1 ?_)
      walk_at "v"
      refine take_call ht (.there .here) (by decide) (fun r xs2 r0 r1 => ?_)
      refine ⟨_, rfl, ⟨by omega, by omega⟩, ?_⟩
      refine for_rng (fun k E o => ∃ (nds : List Nd) (ys : List Int) (x7 x8 : Option Y), o = [(q, .lst (nds.map yNd)), (n, WI ys)] ∧ nds.length ≤ 10 + k ∧ (∀ d ∈ nds, NdOk na no d) ∧ NoEx nds ∧ E = [some (.own n), some (.int na), some (.int no), some (.own q), a, b, c, x7, x8, none, none]) ⟨nds, xs2, _, _, rfl, hl10, hok, hnx, rfl⟩ (fun k E o hk ⟨nds, ys, x7, x8, eo, hl, hok, hnx, eE⟩ => ?_) (fun E o ⟨nds, ys, x7, x8, eo, hl, hok, hnx, eE⟩ => ?_)
      · subst eo; subst eE
        rw [Int.zero_add]
        refine ⟨_, tg_n, ?_⟩
        walk_at "set"
        walk_at "v"
        refine vE_Lc false (vi_range1 ?_)
        walk_at "v"
        refine ⟨_, rfl, ⟨by omega, by omega⟩, ?_⟩
        have hlen : (rngY 0 ((no : Int)).toNat).length = no := by unfold rngY; simp
        refine lc_ix (fun i acc o => ∃ (ch : List Nat) (xs' : List Int), acc = ch.map (fun i => .int (i : Nat)) ∧ ch.length ≤ i ∧ (∀ x ∈ ch, x < i) ∧ ch.Pairwise (· < ·) ∧ o = [(q, .lst (nds.map yNd)), (n, WI xs')]) (by rw [hlen]; omega) ⟨[], ys, rfl, Nat.le_refl _, fun _ h => (by cases h), .nil, rfl⟩ (fun i h acc o _ ⟨ch, xs', ea, hl, hb, hp, eo⟩ => ?_) (fun acc o ⟨ch, xs', ea, hl2, hb, hp, eo⟩ => ?_)
        · subst eo; subst ea
          have hi : i < no := by rw [hlen] at h; exact h
          have eg : (rngY 0 ((no : Int)).toNat)[i] = .int (i : Nat) := by unfold rngY; simp
          rw [eg]
          refine ⟨_, tg_n, ?_⟩
          dsimp only [wipeY, List.set]
          walk_at "v"
          refine take_call ht (.there .here) (by decide) (fun r xs2 r0 r1 => ?_)
          walk_at "v"
          · refine ⟨ch ++ [i], xs2, by simp, by simp; omega, fun x hx => ?_, ?_, rfl⟩
            · rcases List.mem_append.mp hx with hx | hx
              · exact Nat.lt_succ_of_lt (hb x hx)
              · rw [List.mem_singleton.mp hx]; omega
            · rw [List.pairwise_append]
              exact ⟨hp, List.pairwise_singleton _ _, fun x hx y hy => by rw [List.mem_singleton.mp hy]; exact hb x hx⟩
          · exact ⟨ch, xs2, rfl, by omega, fun x hx => Nat.lt_succ_of_lt (hb x hx), hp, rfl⟩
        · subst eo; subst ea
          rw [hlen] at hb hl2
          refine NL.fz ?_
          walk_at "v"
          · rename_i hpos
            rw [List.length_map] at hpos
            refine ⟨chk_L (.own .here), ?_⟩
            walk_at "v"
            refine take_call ht (.there .here) (by omega) (fun w xs3 w0 w1 => ?_)
            obtain ⟨w, rfl⟩ : ∃ k : Nat, w = k := ⟨w.toNat, by omega⟩
            walk_at "v"
            refine m_append' .here (by rw [List.length_map]; omega) ?_
            walk_at "v"
            refine ⟨nds ++ [.order w ch], xs3, _, _, by rw [List.map_append]; rfl, by simp; omega, fun x hx => ?_, noex_snoc hnx fun x _ => ex_order, rfl⟩
            rcases List.mem_append.mp hx with hx | hx
            · exact hok x hx
            · rw [List.mem_singleton.mp hx]
              exact ⟨by omega, fun e => by rw [e] at hpos; simp at hpos, hb, hp⟩
          · exact ⟨nds, xs', _, _, rfl, by omega, hok, hnx, rfl⟩
      · subst eo; subst eE
        have hl12 : nds.length ≤ 12 := by omega
        walk_at "v1"
        walk_at "v1"
        walk_at "v1"
        walk_at "v1"
        walk_at "v1"
        walk_at "v1"
        walk_at "v1"
        refine f_list true (.own .here) (NL.ow fun p hp => ?_)
        walk_at "v"
        refine vE_Lc false (vi_range1 ?_)
        walk_at "v"
        rw [List.length_map]
        refine ⟨_, rfl, ⟨by omega, by omega⟩, ?_⟩
        have hlen : (rngY 0 ((nds.length : Int)).toNat).length = nds.length := by unfold rngY; simp
        refine lc_ix (fun i acc o => ∃ (got rest : List Nd) (ys : List Int), acc = got.map yNd ∧ got.length = i ∧ (got ++ rest).Perm nds ∧ o = [(p, .lst (rest.map yNd)), (q, .lst (nds.map yNd)), (n, WI ys)]) (by rw [hlen]; omega) ⟨[], nds, ys, rfl, rfl, .refl _, rfl⟩ (fun i h acc o _ ⟨got, rest, ys, ea, hg, hperm, eo⟩ => ?_) (fun acc o ⟨got, rest, ys, ea, hg, hperm, eo⟩ => ?_)
        · subst eo; subst ea
          rw [hlen] at h
          have hlr : got.length + rest.length = nds.length := by rw [← List.length_append]; exact hperm.length_eq
          refine ⟨_, tg_n, ?_⟩
          dsimp only [wipeY, List.set]
          walk_at "v"
          refine ⟨chk_L (.own .here), ?_⟩
          walk_at "v"
          refine take_call ht (.there (.there .here)) (by rw [List.length_map]; omega) (fun w xs3 w0 w1 => ?_)
          rw [List.length_map] at w1
          obtain ⟨w, rfl⟩ : ∃ k : Nat, w = k := ⟨w.toNat, by omega⟩
          have hw : w < rest.length := by omega
          walk_at "v"
          refine m_popAt' .here ⟨by omega, by omega⟩ (by rw [List.length_map]; exact ixN_nat hw) (y := yNd rest[w]) (by simp [hw]) ?_
          refine ⟨got ++ [rest[w]], rest.eraseIdx w, xs3, by rw [List.map_append]; rfl, by simp [hg], ?_, by rw [erase_map]⟩
          have e := erase_perm' rest w hw
          rw [List.append_assoc]
          exact (List.Perm.append_left got e).trans hperm
        · subst eo; subst ea
          rw [hlen] at hg
          have hlr : got.length + rest.length = nds.length := by rw [← List.length_append]; exact hperm.length_eq
          have hr : rest = [] := List.eq_nil_of_length_eq_zero (by omega)
          subst hr
          rw [List.append_nil] at hperm
          refine NL.fz ?_
          walk_at "v"
          refine ret_v ((List.sublist_cons_self ..).trans (List.sublist_cons_self ..)) ⟨got, ys, rfl, by omega, fun d hd => hok d (hperm.mem_iff.mp hd), ?_, rfl⟩
          exact (hperm.pairwise_iff (fun {x y} h => by rw [exN_symm]; exact h)).mpr hnx
theorem needs_call {f : FD} (h : LNeeds f) {o : OC} {n na no : Nat} {xs : List Int} {k : C → OC} {Q : Y → OC → Prop} {X : XQ} (a : At o n (WI xs) k) (a1 : 1 ≤ na) (a3 : na ≤ 3) (o1 : 1 ≤ no) (o2 : no ≤ 100) (q : ∀ (nds : List Nd) xs', nds.length ≤ 12 → (∀ d ∈ nds, NdOk na no d) → NoEx nds → Q (.lst (nds.map yNd)) (k (WI xs'))) : VF f [.own n, .int na, .int no] o Q X :=
  vc_own a (h n xs na no a1 a3 o1 o2) (fun y o1 ⟨r, xs', e1, e3, e4, e5, e2⟩ => ⟨_, e2, by subst e1; exact q r xs' e3 e4 e5⟩) (fun _ _ z => z.elim)
theorem kinds_call {f : FD} (h : LKinds f) {o : OC} {n most no : Nat} {xs : List Int} {k : C → OC} {Q : Y → OC → Prop} {X : XQ} (a : At o n (WI xs) k) (h1 : 1 ≤ most) (h3 : most ≤ 3) (h0 : no ≤ 100) (q : ∀ (ks : List Kd) xs', 1 ≤ ks.length → ks.length ≤ most → (ks.map Kd.nm).Nodup → (∀ k ∈ ks, KdOk no k) → Q (.lst (ks.map yKd)) (k (WI xs'))) : VF f [.own n, .int most, .int no] o Q X :=
  vc_own a (h n xs most no h1 h3 h0) (fun y o1 ⟨r, xs', e1, e3, e4, e5, e6, e2⟩ => ⟨_, e2, by subst e1; exact q r xs' e3 e4 e5 e6⟩) (fun _ _ z => z.elim)
theorem aim_at {r : Int} (h0 : 0 ≤ r) (h1 : r < 3) : ∃ w : Str, (w = "total" ∨ w = "worst" ∨ w = "paid") ∧ L2.atI [Y.str "total", Y.str "worst", Y.str "paid"] r = some (.str w) := by
  have : r = 0 ∨ r = 1 ∨ r = 2 := by omega
  rcases this with rfl | rfl | rfl
  · exact ⟨_, .inl rfl, rfl⟩
  · exact ⟨_, .inr (.inl rfl), rfl⟩
  · exact ⟨_, .inr (.inr rfl), rfl⟩
end
section
noncomputable def P_is_index (c_is_integer : FD) : FD := fnRun (sRt (dAndT (dCall c_is_integer (aC (dV 0) aN) []) (dCh .LtE .Lt (dC (.int 0)) (dV 0) (dV 1)))) 2
noncomputable def P_is_swap (c_is_index : FD) : FD := fnRun (sSq (sIf (tOr (tNot (tE (dIs .list (dV 0)))) (tB (dCmp .NotEq (dCall fLen (aC (dV 0) aN) []) (dV 1)))) (sRt (dC (.bl false))) sNx)
    (sSq (sIf (tNot (tE (dCall fAll (aC (dLc (iSeq (dV 0)) (gN 2) tY (dCall c_is_index (aC (dV 2) (aC (dV 1) aN)) []) [2]) aN) []))) (sRt (dC (.bl false))) sNx)
    (sRt (dCall fAll (aC (dLc (iRange1 (dV 1)) (gN 3) tY (dCmp .Eq (dIx (dV 0) (dIx (dV 0) (dV 3))) (dV 3)) [3]) aN) [])))) 4
noncomputable def P_is_choice (c_is_index : FD) : FD := fnRun (sSq (sIf (tOr (tNot (tE (dIs .list (dV 0)))) (tB (dCmp .Eq (dCall fLen (aC (dV 0) aN) []) (dC (.int 0))))) (sRt (dC (.bl false))) sNx)
    (sSq (sIf (tNot (tE (dCall fAll (aC (dLc (iSeq (dV 0)) (gN 2) tY (dCall c_is_index (aC (dV 2) (aC (dV 1) aN)) []) [2]) aN) []))) (sRt (dC (.bl false))) sNx)
    (sRt (dCall fAll (aC (dLc (iRange1 (dB .Sub (dCall fLen (aC (dV 0) aN) []) (dC (.int 1)))) (gN 3) tY (dCmp .Lt (dIx (dV 0) (dV 3)) (dIx (dV 0) (dB .Add (dV 3) (dC (.int 1))))) [3]) aN) [])))) 4
noncomputable def P_is_need (c_is_choice : FD) (c_is_index : FD) (c_is_ratio : FD) (c_is_swap : FD) (c_sign : FD) : FD := fnRun (sSq (sIf (tB (dCmp .In (dV 0) (dTup (aC (dTup (aC (dC (.str "part")) aN)) (aC (dTup (aC (dC (.str "budget")) aN)) (aC (dTup (aC (dC (.str "even")) aN)) aN)))))) (sRt (dC (.bl true))) sNx)
    (sSq (sIf (tAnd (tB (dCmp .Eq (dCall fLen (aC (dV 0) aN) []) (dC (.int 2)))) (tB (dCmp .Eq (dIx (dV 0) (dC (.int 0))) (dC (.str "bound"))))) (sRt (dAndT (dCall c_is_ratio (aC (dIx (dV 0) (dC (.int 1))) aN) []) (dCmp .GtE (dCall c_sign (aC (dIx (dV 0) (dC (.int 1))) aN) []) (dC (.int 0))))) sNx)
    (sSq (sIf (tAnd (tB (dCmp .Eq (dCall fLen (aC (dV 0) aN) []) (dC (.int 4)))) (tB (dCmp .Eq (dIx (dV 0) (dC (.int 0))) (dC (.str "envy"))))) (sSq (sIf (tOr (tNot (tE (dCall c_is_index (aC (dIx (dV 0) (dC (.int 1))) (aC (dV 1) aN)) []))) (tNot (tE (dCall c_is_index (aC (dIx (dV 0) (dC (.int 2))) (aC (dV 1) aN)) [])))) (sRt (dC (.bl false))) sNx)
    (sRt (dAndT (dCmp .Lt (dIx (dV 0) (dC (.int 1))) (dIx (dV 0) (dC (.int 2)))) (dCall c_is_swap (aC (dIx (dV 0) (dC (.int 3))) (aC (dV 2) aN)) [])))) sNx)
    (sSq (sIf (tAnd (tB (dCmp .Eq (dCall fLen (aC (dV 0) aN) []) (dC (.int 3)))) (tB (dCmp .Eq (dIx (dV 0) (dC (.int 0))) (dC (.str "order"))))) (sRt (dAndT (dCall c_is_index (aC (dIx (dV 0) (dC (.int 1))) (aC (dV 1) aN)) []) (dCall c_is_choice (aC (dIx (dV 0) (dC (.int 2))) (aC (dV 2) aN)) []))) sNx)
    (sRt (dC (.bl false))))))) 3
noncomputable def P_is_excluded : FD := fnRun (sSq (sFor (iSeq (dV 1)) (gN 2) (sSq (sIf (tAnd (tB (dCmp .Eq (dIx (dV 0) (dC (.int 0))) (dIx (dV 2) (dC (.int 0))))) (tB (dCmp .In (dIx (dV 0) (dC (.int 0))) (dC (.tup [(.str "part"), (.str "budget"), (.str "even"), (.str "bound")]))))) (sRt (dC (.bl true))) sNx)
    (sIf (tAnd (tB (dCmp .Eq (dIx (dV 0) (dC (.int 0))) (dC (.str "envy")))) (tB (dCmp .Eq (dSl (dV 0) oN (oS (dC (.int 3)))) (dSl (dV 2) oN (oS (dC (.int 3))))))) (sRt (dC (.bl true))) sNx)))
    (sRt (dC (.bl false)))) 3
noncomputable def P_check_limits : FD := fnRun (sSq (sIf (tB (dCmp .Gt (dCall fLen (aC (dV 0) aN) []) (dC (.int 4)))) (sRaiseA 9 [48] (aC (dC (.str "agents")) aN)) sNx)
    (sSq (sAs (dC (.int 1)) (ofG (gN 3)))
    (sSq (sFor (iSeq (dV 0)) (gT [4, 5]) (sSq (sIf (tB (dCmp .Gt (dCall fLen (aC (dV 5) aN) []) (dC (.int 4)))) (sRaiseA 9 [48] (aC (dC (.str "kinds")) aN)) sNx)
    (sAs (dB .Mult (dV 3) (dCall fLen (aC (dV 5) aN) [])) (ofG (gN 3)))))
    (sSq (sIf (tB (dCmp .Gt (dCall fLen (aC (dV 1) aN) []) (dC (.int 6)))) (sRaiseA 9 [48] (aC (dC (.str "outcomes")) aN)) sNx)
    (sSq (sIf (tB (dCmp .Gt (dCall fLen (aC (dV 2) aN) []) (dC (.int 12)))) (sRaiseA 9 [48] (aC (dC (.str "needs")) aN)) sNx)
    (sIf (tB (dCmp .Gt (dV 3) (dC (.int 16)))) (sRaiseA 9 [48] (aC (dC (.str "profiles")) aN)) sNx)))))) 6
noncomputable def P_check_game (c_are_names : FD) (c_is_excluded : FD) (c_is_need : FD) (c_sign : FD) : FD := fnRun (sSq (sIf (tNot (tE (dCall c_are_names (aC (dLc (iSeq (dV 0)) (gT [8, 4]) tY (dV 8) [8, 4]) aN) []))) (sRaiseA 2 [69] (aC (dC (.str "agents")) aN)) sNx)
    (sSq (sFor (iSeq (dV 0)) (gT [4, 5]) (sSq (sIf (tNot (tE (dCall c_are_names (aC (dLc (iSeq (dV 5)) (gN 9) tY (dIx (dV 9) (dC (.int 0))) [9]) aN) []))) (sRaiseA 2 [69] (aC (dC (.str "kinds")) aN)) sNx)
    (sIf (tE (dCall fAny (aC (dLc (iSeq (dV 5)) (gN 9) tY (dCmp .Lt (dCall c_sign (aC (dIx (dV 9) (dC (.int 1))) aN) []) (dC (.int 0))) [9]) aN) [])) (sRaiseA 2 [69] (aC (dC (.str "kinds")) aN)) sNx)))
    (sSq (sIf (tNot (tE (dCall c_are_names (aC (dV 1) aN) []))) (sRaiseA 2 [69] (aC (dC (.str "outcomes")) aN)) sNx)
    (sSq (sFor (iSeq (dV 0)) (gT [4, 5]) (sIf (tE (dCall fAny (aC (dLc (iSeq (dV 5)) (gN 9) tY (dCmp .NotEq (dCall fLen (aC (dIx (dV 9) (dC (.int 3))) aN) []) (dCall fLen (aC (dV 1) aN) [])) [9]) aN) [])) (sRaiseA 2 [69] (aC (dC (.str "worths")) aN)) sNx))
    (sSq (sIf (tB (dCmp .NotIn (dV 2) (dC (.tup [(.str "total"), (.str "worst"), (.str "paid")])))) (sRaiseA 2 [69] (aC (dC (.str "aim")) aN)) sNx)
    (sFor (iEnum (dV 3)) (gT [6, 7]) (sIf (tOr (tNot (tE (dCall c_is_need (aC (dV 7) (aC (dCall fLen (aC (dV 0) aN) []) (aC (dCall fLen (aC (dV 1) aN) []) aN))) []))) (tE (dCall c_is_excluded (aC (dV 7) (aC (dSl (dV 3) oN (oS (dV 6))) aN)) []))) (sRaiseA 2 [69] (aC (dC (.str "needs")) aN)) sNx))))))) 10
noncomputable def P_copied_kinds : FD := fnRun (sRt (dLc (iSeq (dV 0)) (gT [1, 2, 3, 4]) tY (dTup (aC (dV 1) (aC (dV 2) (aC (dV 3) (aC (dCall fList (aC (dV 4) aN) []) aN))))) [1, 2, 3, 4])) 5
noncomputable def P_copied_need : FD := fnRun (sSq (sAs (dLst aN) (ofG (gN 1)))
    (sSq (sFor (iSeq (dV 0)) (gN 2) (sIf (tE (dIs .list (dV 2))) (sEx (dM chkL mAppend (dV 1) (aC (dCall fList (aC (dV 2) aN) []) aN))) (sEx (dM chkL mAppend (dV 1) (aC (dV 2) aN)))))
    (sRt (dCall fTuple (aC (dV 1) aN) [])))) 3
noncomputable def P_Game___init__ (c_check_game : FD) (c_check_limits : FD) (c_copied_kinds : FD) (c_copied_need : FD) : FD := fnRun (sSq (sEx (dCall c_check_limits (aC (dV 1) (aC (dV 2) (aC (dV 6) aN))) []))
    (sSq (sEx (dCall c_check_game (aC (dV 1) (aC (dV 2) (aC (dV 3) (aC (dV 6) aN)))) []))
    (sSq (sFl naT 13 (dV 0) (dLc (iSeq (dV 1)) (gT [7, 8]) tY (dTup (aC (dV 7) (aC (dCall c_copied_kinds (aC (dV 8) aN) []) aN))) [7, 8]))
    (sSq (sFl naT 62 (dV 0) (dCall fList (aC (dV 2) aN) []))
    (sSq (sFl naT 14 (dV 0) (dV 3))
    (sSq (sFl naT 64 (dV 0) (dV 4))
    (sSq (sFl naT 52 (dV 0) (dV 5))
    (sFl naT 56 (dV 0) (dLc (iSeq (dV 6)) (gN 9) tY (dCall c_copied_need (aC (dV 9) aN) []) [9]))))))))) 10
noncomputable def P__law_copy_agents : FD := fnRun (sRt (dLc (iSeq (dV 0)) (gN 1) tY (dTup (aC (dIx (dV 1) (dC (.int 0))) (aC (dLc (iSeq (dIx (dV 1) (dC (.int 1)))) (gN 2) tY (dTup (aC (dIx (dV 2) (dC (.int 0))) (aC (dIx (dV 2) (dC (.int 1))) (aC (dIx (dV 2) (dC (.int 2))) (aC (dCall fList (aC (dIx (dV 2) (dC (.int 3))) aN) []) aN))))) [2]) aN))) [1])) 3
noncomputable def P__law_copy_needs : FD := fnRun (sSq (sAs (dLst aN) (ofG (gN 1)))
    (sSq (sFor (iSeq (dV 0)) (gN 2) (sSq (sAs (dB .Sub (dCall fLen (aC (dV 2) aN) []) (dC (.int 1))) (ofG (gN 3)))
    (sIf (tAnd (tB (dCmp .GtE (dV 3) (dC (.int 0)))) (tE (dIs .list (dIx (dV 2) (dV 3))))) (sEx (dM chkL mAppend (dV 1) (aC (dB .Add (dSl (dV 2) oN (oS (dV 3))) (dTup (aC (dCall fList (aC (dIx (dV 2) (dV 3)) aN) []) aN))) aN))) (sEx (dM chkL mAppend (dV 1) (aC (dV 2) aN))))))
    (sRt (dV 1)))) 4
noncomputable def P__law_made_2 (c_Game___init__ : FD) (c__law_copy_agents : FD) (c__law_copy_needs : FD) : FD := fnRun (sRt (dMkK 43 c_Game___init__ [.p 0, .p 1, .p 2, .k 0, .k 1, .k 2, .k 3] [] (aC (dCall c__law_copy_agents (aC (dIx (dV 0) (dC (.int 0))) aN) []) (aC (dCall fList (aC (dIx (dV 0) (dC (.int 1))) aN) []) aN)) (aC (dIx (dV 0) (dC (.int 2))) (aC (dIx (dV 0) (dC (.int 3))) (aC (dIx (dV 0) (dC (.int 4))) (aC (dCall c__law_copy_needs (aC (dIx (dV 0) (dC (.int 5))) aN) []) aN)))))) 1
def IsI (f : FD) : Prop := ∀ {i : Int}, VP f [.int i] (.bl true)
theorem isi_ok : IsI P_is_integer := fun {i} => by
  refine vp_run ?_
  walk_at "v0"
  walk_at "v"
  rfl
def IsR (f : FD) : Prop := ∀ {q : Rat}, VP f [yR q] (.bl true)
theorem isr_ok {g : FD} (hg : IsI g) : IsR (P_is_ratio g) := fun {q} => by
  have h1 := q.den_pos
  have h2 : ((Nat.gcd q.num.natAbs (q.den : Int).natAbs : Nat) : Int) = 1 := by
    have := q.reduced
    unfold Nat.Coprime at this
    rw [Int.natAbs_natCast, this]
    rfl
  refine vp_run ?_
  unfold yR
  walk_at "v0"
  walk_at "v"
  refine vc_p hg ?_
  walk_at "v"
  refine vc_p hg ?_
  walk_at "v"
  · rename_i h3
    exact absurd h3 (by omega)
  · rw [h2]
    rfl
def IsIx (f : FD) : Prop := ∀ {i c : Nat}, i < c → VP f [.int i, .int c] (.bl true)
theorem isix_ok {g : FD} (hg : IsI g) : IsIx (P_is_index g) := fun {i c} h => by
  refine vp_run ?_
  walk_at "v0"
  walk_at "v"
  refine vc_p hg ?_
  walk_at "v"
  rw [decide_eq_true (by omega)]
theorem all_true {α : Type} (xs : List α) : xs.map (fun _ => Y.bl true) = (xs.map fun _ => true).map .bl := by rw [List.map_map]; rfl
theorem all_id {α : Type} (xs : List α) : (xs.map fun _ => true).all id = true := by simp
def IsSw (f : FD) : Prop := ∀ {c : Nat} {sw : List Nat}, c ≤ 1000 → SwOk c sw → VP f [gIs sw, .int c] (.bl true)
theorem issw_ok {g : FD} (hg : IsIx g) : IsSw (P_is_swap g) := fun {c sw} hc h => by
  have hszl : szl = 16777216 := rfl
  have hl := h.l
  refine vp_run ?_
  walk_at "v0"
  walk_at "v"
  · rename_i h0
    refine vE_Lc false (vi_seq ?_)
    walk_at "v"
    refine ⟨_, _, .lst _, ?_⟩
    refine lc_map (f := fun _ => .bl true) (by omega) (fun i hi => ⟨_, tg_n, ?_⟩) ?_
    · have hi2 : i < c := by
        obtain ⟨j, hj, e⟩ := List.mem_iff_getElem.mp hi
        have := h.b j (by omega)
        rwa [show sw.getD j 0 = sw[j] by simp [List.getD, hj], e] at this
      dsimp only [wipeY, List.set]
      walk_at "v"
      refine vc_p (hg hi2) ?_
      exact ⟨rfl, rfl⟩
    · refine NL.fz ?_
      rw [all_true]
      walk_at "v"
      refine f_all (.lst _) ?_
      rw [all_id]
      walk_at "v"
      refine vE_Lc false (vi_range1 ?_)
      walk_at "v"
      refine ⟨_, rfl, ⟨by omega, by omega⟩, ?_⟩
      refine lc_map (f := fun _ => .bl true) (by rw [List.length_range]; omega) (fun i hi => ⟨_, tg_n, ?_⟩) ?_
      · have hi := List.mem_range.mp hi
        have hic : i < sw.length := by omega
        have e1 : sw.getD i 0 = sw[i] := by simp [List.getD, hic]
        have hb := h.b i (by omega)
        have hs := h.s i (by omega)
        rw [e1] at hb hs
        have hbl : sw[i] < sw.length := by omega
        have e2 : sw.getD sw[i] 0 = sw[sw[i]] := by simp [List.getD, hbl]
        dsimp only [wipeY, List.set]
        rw [Int.zero_add]
        walk_at "v"
        refine x_lst (.lst _) (y := .int (sw[i] : Nat)) (atI_nat (by simp [hic])) ?_
        refine x_lst (.lst _) (y := .int (sw[sw[i]] : Nat)) (atI_nat (by simp [hbl])) ?_
        walk_at "v"
        rw [← e2, hs, decide_eq_true rfl]
        exact ⟨rfl, rfl⟩
      · refine NL.fz ?_
        rw [all_true]
        walk_at "v"
        refine f_all (.lst _) ?_
        rw [all_id]
        walk_at "v"
  · rename_i h0
    rw [List.length_map] at h0
    exact absurd (by omega) h0
def IsCh (f : FD) : Prop := ∀ {c : Nat} {ch : List Nat}, ch.length ≤ 1000 → ChOk c ch → VP f [gIs ch, .int c] (.bl true)
theorem isch_ok {g : FD} (hg : IsIx g) : IsCh (P_is_choice g) := fun {c ch} hc h => by
  have hszl : szl = 16777216 := rfl
  have h0 : 0 < ch.length := List.length_pos_iff.mpr h.l
  refine vp_run ?_
  walk_at "v0"
  walk_at "v"
  · rename_i hz
    rw [List.length_map] at hz
    exact absurd hz (by omega)
  · refine vE_Lc false (vi_seq ?_)
    walk_at "v"
    refine ⟨_, _, .lst _, ?_⟩
    refine lc_map (f := fun _ => .bl true) (by omega) (fun i hi => ⟨_, tg_n, ?_⟩) ?_
    · dsimp only [wipeY, List.set]
      walk_at "v"
      refine vc_p (hg (h.b i hi)) ?_
      exact ⟨rfl, rfl⟩
    · refine NL.fz ?_
      rw [all_true]
      walk_at "v"
      refine f_all (.lst _) ?_
      rw [all_id]
      walk_at "v"
      refine vE_Lc false (vi_range1 ?_)
      walk_at "v"
      rw [List.length_map]
      refine ⟨_, rfl, ⟨by omega, by omega⟩, ?_⟩
      refine lc_map (f := fun _ => .bl true) (by rw [List.length_range]; omega) (fun i hi => ⟨_, tg_n, ?_⟩) ?_
      · have hi := List.mem_range.mp hi
        have h1 : i < ch.length := by omega
        have h2 : i + 1 < ch.length := by omega
        have hp := List.pairwise_iff_getElem.mp h.s i (i + 1) h1 h2 (by omega)
        dsimp only [wipeY, List.set]
        rw [Int.zero_add]
        walk_at "v"
        refine x_lst (.lst _) (y := .int (ch[i] : Nat)) (atI_nat (by simp [h1])) ?_
        walk_at "v"
        refine x_lst (.lst _) (y := .int (ch[i + 1] : Nat)) (atI_nat (k := i + 1) (by simp [h2])) ?_
        walk_at "v"
        rw [decide_eq_true (show ((ch[i] : Nat) : Int) < (ch[i + 1] : Nat) by omega)]
        exact ⟨rfl, rfl⟩
      · refine NL.fz ?_
        rw [all_true]
        walk_at "v"
        refine f_all (.lst _) ?_
        rw [all_id]
        walk_at "v"
theorem okN (k : Nat) (d : Nd) : okY (k + 3) (yNd d) = true := by
  have okI : ∀ (xs : List Nat), (xs.map fun i => Y.int (i : Nat)).all (okY (k + 1)) = true := fun xs => by
    rw [List.all_map, List.all_eq_true]
    exact fun _ _ => rfl
  have s1 : PyData.strOk "part" = true := by decide +kernel
  have s2 : PyData.strOk "budget" = true := by decide +kernel
  have s3 : PyData.strOk "even" = true := by decide +kernel
  have s4 : PyData.strOk "bound" = true := by decide +kernel
  have s5 : PyData.strOk "envy" = true := by decide +kernel
  have s6 : PyData.strOk "order" = true := by decide +kernel
  have hr : ∀ q : Rat, okY (k + 2) (yR q) = true := fun q => by cases k <;> rfl
  cases d <;> simp only [yNd, okY, List.all_cons, List.all_nil, s1, s2, s3, s4, s5, s6, hr, okI, Bool.and_true, Bool.true_and]
def IsNeed (f : FD) : Prop := ∀ {na no : Nat} {d : Nd}, no ≤ 100 → NdOk na no d → VP f [yNd d, .int na, .int no] (.bl true)
theorem ch_len {n : Nat} {ch : List Nat} (h : ChOk n ch) : ch.length ≤ n := by
  have hb : ∀ i, (h2 : i < ch.length) → i ≤ ch[i] := by
    intro i
    induction i with
    | zero => intro _; omega
    | succ i ih =>
      intro h2
      have h3 := ih (by omega)
      have h4 := List.pairwise_iff_getElem.mp h.s i (i + 1) (by omega) h2 (by omega)
      omega
  by_cases h0 : ch.length = 0
  · omega
  · have h1 := hb (ch.length - 1) (by omega)
    have h2 := h.b _ (List.getElem_mem (show ch.length - 1 < ch.length by omega))
    omega
theorem tb_eq {b b2 : Bool} {o : OC} {Q : Bool → OC → Prop} (e : b = b2) (q : TB (.bl b2) o Q) : TB (.bl b) o Q := e ▸ q
theorem isneed_ok {ch ix ra sw si : FD} (h1 : IsCh ch) (h2 : IsIx ix) (h3 : IsR ra) (h4 : IsSw sw) (h5 : Sign si) : IsNeed (P_is_need ch ix ra sw si) := fun {na no d} hno hd => by
  have hok := okN 9 d
  refine vp_run ?_
  cases d with
  | part =>
    unfold yNd
    walk_at "v0"
    walk_at "v"
    refine c_inTN rfl hok (by decide +kernel) ?_
    refine tb_eq (b2 := true) (by decide +kernel) ?_
    walk_at "v"
  | budget =>
    unfold yNd
    walk_at "v0"
    walk_at "v"
    refine c_inTN rfl hok (by decide +kernel) ?_
    refine tb_eq (b2 := true) (by decide +kernel) ?_
    walk_at "v"
  | even =>
    unfold yNd
    walk_at "v0"
    walk_at "v"
    refine c_inTN rfl hok (by decide +kernel) ?_
    refine tb_eq (b2 := true) (by decide +kernel) ?_
    walk_at "v"
  | bound q =>
    obtain ⟨hq, h0⟩ := hd
    unfold yNd
    walk_at "v0"
    walk_at "v"
    refine c_inTN rfl hok (by decide +kernel) ?_
    refine tb_eq (b2 := false) (by rfl) ?_
    walk_at "v"
    refine vc_p h3 ?_
    walk_at "v"
    rw [decide_eq_true (show (0 : Int) ≤ cmpR q 0 from by
      have : ¬ cmpR q 0 < 0 := fun h => Rat.not_lt.mpr h0 (cmpR_lt.mp h)
      omega)]
  | envy a b s =>
    obtain ⟨hab, hb, hsw⟩ := hd
    unfold yNd
    walk_at "v0"
    walk_at "v"
    refine c_inTN rfl hok (by decide +kernel) ?_
    refine tb_eq (b2 := false) (by rfl) ?_
    walk_at "v"
    refine vc_p (h2 (by omega)) ?_
    walk_at "v"
    refine vc_p (h2 hb) ?_
    walk_at "v"
    · refine vc_p (h4 (by omega) hsw) ?_
      walk_at "v"
    · rename_i h9
      exact absurd (by omega) h9
  | order a c =>
    obtain ⟨ha, hc⟩ := hd
    have hcl := ch_len hc
    unfold yNd
    walk_at "v0"
    walk_at "v"
    refine c_inTN rfl hok (by decide +kernel) ?_
    refine tb_eq (b2 := false) (by rfl) ?_
    walk_at "v"
    refine vc_p (h2 ha) ?_
    walk_at "v"
    refine vc_p (h1 (by omega) hc) ?_
    walk_at "v"
theorem cut3 (ys : List Y) : cutY ys none (some 3) = ys.take 3 := cutY_to (k := 3)
theorem okT3 {ys : List Y} (h : okY (9 + 3) (.tup ys) = true) : okY 12 (.tup (cutY ys none (some 3))) = true := by
  rw [cut3]
  have h1 : ys.all (okY 11) = true := h
  show (ys.take 3).all (okY 11) = true
  rw [List.all_eq_true] at h1 ⊢
  exact fun y hy => h1 y (List.take_subset _ _ hy)
def NotEx (f : FD) : Prop := ∀ {d : Nd} {ds : List Nd}, ds.length ≤ 1000 → (∀ x ∈ ds, exN x d = false) → VP f [yNd d, .lst (ds.map yNd)] (.bl false)
theorem notex_ok : NotEx P_is_excluded := fun {d ds} hl hx => by
  refine vp_run ?_
  walk_at "v0"
  walk_at "v"
  refine vs_for (vi_seq ?_)
  walk_at "v"
  refine ⟨_, _, .lst _, ?_⟩
  refine for_mem (fun E o => o = [] ∧ ∃ a, E = [some (yNd d), some (.lst (ds.map yNd)), a]) ⟨rfl, _, rfl⟩ (fun w hw E o ⟨eo, a, eE⟩ => ?_) (fun E o ⟨eo, a, eE⟩ => ?_)
  · subst eo; subst eE
    obtain ⟨x, hxm, rfl⟩ := List.mem_map.mp hw
    have hex := hx x hxm
    refine ⟨_, tg_n, ?_⟩
    walk_at "set"
    by_cases hde : ∃ a b s, d = .envy a b s
    · obtain ⟨a0, b0, s0, rfl⟩ := hde
      have ok1 := okT3 (ys := [.str "envy", .int (a0 : Nat), .int (b0 : Nat), gIs s0]) (okN 9 (.envy a0 b0 s0))
      cases x with
      | part =>
        have ok2 := okT3 (ys := [.str "part"]) (okN 9 .part)
        unfold yNd
        walk_at "v"
        refine c_eq ok1 ok2 ?_
        refine tb_eq (b2 := false) (by rw [cut3, cut3]; rfl) ?_
        walk_at "v"
        exact ⟨rfl, _, rfl⟩
      | budget =>
        have ok2 := okT3 (ys := [.str "budget"]) (okN 9 .budget)
        unfold yNd
        walk_at "v"
        refine c_eq ok1 ok2 ?_
        refine tb_eq (b2 := false) (by rw [cut3, cut3]; rfl) ?_
        walk_at "v"
        exact ⟨rfl, _, rfl⟩
      | even =>
        have ok2 := okT3 (ys := [.str "even"]) (okN 9 .even)
        unfold yNd
        walk_at "v"
        refine c_eq ok1 ok2 ?_
        refine tb_eq (b2 := false) (by rw [cut3, cut3]; rfl) ?_
        walk_at "v"
        exact ⟨rfl, _, rfl⟩
      | bound q =>
        have ok2 := okT3 (ys := [.str "bound", yR q]) (okN 9 (.bound q))
        unfold yNd
        walk_at "v"
        refine c_eq ok1 ok2 ?_
        refine tb_eq (b2 := false) (by rw [cut3, cut3]; rfl) ?_
        walk_at "v"
        exact ⟨rfl, _, rfl⟩
      | order a1 c1 =>
        have ok2 := okT3 (ys := [.str "order", .int (a1 : Nat), gIs c1]) (okN 9 (.order a1 c1))
        unfold yNd
        walk_at "v"
        refine c_eq ok1 ok2 ?_
        refine tb_eq (b2 := false) (by rw [cut3, cut3]; rfl) ?_
        walk_at "v"
        exact ⟨rfl, _, rfl⟩
      | envy a1 b1 s1 =>
        have ok2 := okT3 (ys := [.str "envy", .int (a1 : Nat), .int (b1 : Nat), gIs s1]) (okN 9 (.envy a1 b1 s1))
        unfold yNd
        walk_at "v"
        refine c_inT rfl rfl ?_
        refine tb_eq (b2 := false) (by rfl) ?_
        walk_at "v"
        refine c_eq ok1 ok2 ?_
        refine tb_eq (b2 := false) (by
          rw [cut3, cut3]
          simp only [exN, Bool.and_eq_false_iff, decide_eq_false_iff_not] at hex
          show eqY (.tup [.str "envy", .int (a0 : Nat), .int (b0 : Nat)]) (.tup [.str "envy", .int (a1 : Nat), .int (b1 : Nat)]) = false
          simp [eqY, pdY, pdYs, PyData.eqv, PyData.eqvAll]
          omega) ?_
        walk_at "v"
        exact ⟨rfl, _, rfl⟩
    · cases d <;> cases x <;> first
      | (cases hex; done)
      | (exact absurd ⟨_, _, _, rfl⟩ hde)
      | (unfold yNd
         walk_at "v"
         first
          | exact ⟨rfl, _, rfl⟩
          | (refine c_inT rfl rfl ?_
             refine tb_eq (b2 := false) (by rfl) ?_
             walk_at "v"
             exact ⟨rfl, _, rfl⟩))
  · subst eo; subst eE
    walk_at "v"
def prodK (g : Gm) : Nat := (g.ags.map fun a => a.ks.length).foldl (· * ·) 1
def CkLim (f : FD) : Prop := ∀ {g : Gm}, GmOk g → prodK g ≤ 16 → VP f [.lst (g.ags.map yAg), gSs g.outs, .lst (g.nds.map yNd)] .non
theorem cklim_ok : CkLim P_check_limits := fun {g} h hp => by
  have a3 := h.a3
  have o4 := h.o4
  have n12 := h.nl
  refine vp_run ?_
  walk_at "v0"
  walk_at "v"
  · rename_i h0
    rw [List.length_map] at h0
    exact absurd h0 (by omega)
  · refine vs_for (vi_seq ?_)
    walk_at "v"
    refine ⟨_, _, .lst _, ?_⟩
    refine for_mapI (fun t E o => o = [] ∧ ((g.ags.take t).map fun a => a.ks.length).foldl (· * ·) 1 ≤ 4 ^ t ∧ ∃ a b, E = [some (.lst (g.ags.map yAg)), some (gSs g.outs), some (.lst (g.nds.map yNd)), some (.int (((g.ags.take t).map fun a => a.ks.length).foldl (· * ·) 1 : Nat)), a, b]) ⟨rfl, by simp, _, _, rfl⟩ (fun t ht' E o ⟨eo, hb, a, b, eE⟩ => ?_) (fun E o ⟨eo, hb, a, b, eE⟩ => ?_)
    · subst eo; subst eE
      have ha := h.ag _ (List.getElem_mem ht')
      have e1 : ((g.ags.take (t + 1)).map fun a => a.ks.length).foldl (· * ·) 1 = ((g.ags.take t).map fun a => a.ks.length).foldl (· * ·) 1 * g.ags[t].ks.length := by
        rw [List.take_succ_eq_append_getElem ht', List.map_append, List.foldl_append]
        rfl
      have ht3 : t < 3 := by omega
      have hk4 := ha.k4
      rw [e1]
      generalize ((g.ags.take t).map fun a => a.ks.length).foldl (· * ·) 1 = m at *
      generalize g.ags[t] = ag at *
      have hm : m ≤ 64 := Nat.le_trans hb (by
        have : t = 0 ∨ t = 1 ∨ t = 2 := by omega
        rcases this with rfl | rfl | rfl <;> decide)
      have c1 : cMul ((m : Nat) : Int) ((ag.ks.length : Nat) : Int) := cMul_of (k := 7) (l := 3) (by omega) (by omega) (by decide)
      refine ⟨_, tg_t rfl, ?_⟩
      dsimp only [setY, List.set]
      walk_at "v"
      · rename_i h0
        rw [List.length_map] at h0
        exact absurd h0 (by omega)
      · rw [List.length_map]
        walk_at "v"
        refine ⟨rfl, ?_, _, _, rfl⟩
        rw [Nat.pow_succ]
        exact Nat.mul_le_mul hb hk4
    · subst eo; subst eE
      rw [List.take_length] at hb ⊢
      have hp' : ((g.ags.map fun a => a.ks.length).foldl (· * ·) 1) ≤ 16 := hp
      generalize (g.ags.map fun a => a.ks.length).foldl (· * ·) 1 = m at *
      walk_at "v"
      · rename_i h0
        rw [List.length_map] at h0
        exact absurd h0 (by omega)
      · rename_i h0 h1
        rw [List.length_map] at h1
        exact absurd h1 (by omega)
      · rename_i h0 h1 h2
        exact absurd h2 (by omega)
end
section
theorem all_false {α : Type} (xs : List α) : xs.map (fun _ => Y.bl false) = (xs.map fun _ => false).map .bl := by rw [List.map_map]; rfl
theorem any_id {α : Type} (xs : List α) : (xs.map fun _ => false).any id = false := by simp
def CkGame (f : FD) : Prop := ∀ {g : Gm}, GmOk g → VP f [.lst (g.ags.map yAg), gSs g.outs, .str g.aim, .lst (g.nds.map yNd)] .non
theorem ckgame_ok {an ex nd si : FD} (h1 : AreNames an) (h2 : NotEx ex) (h3 : IsNeed nd) (h4 : Sign si) : CkGame (P_check_game an ex nd si) := fun {g} h => by
  have hszl : szl = 16777216 := rfl
  have a1 := h.a1
  have a3 := h.a3
  have o1 := h.o1
  have o4 := h.o4
  have n12 := h.nl
  refine vp_run ?_
  walk_at "v0"
  walk_at "w"
  refine vs_cut (fun E o => o = [] ∧ ∃ x8 x9, E = [some (.lst (g.ags.map yAg)), some (gSs g.outs), some (.str g.aim), some (.lst (g.nds.map yNd)), none, none, none, none, x8, x9]) ?_ (fun E o ⟨eo, x8, x9, eE⟩ => ?_)
  · walk_at "v"
    refine vE_Lc false (vi_seq ?_)
    walk_at "v"
    refine ⟨_, _, .lst _, ?_⟩
    refine lc_map (f := fun a => .str a.nm) (by omega) (fun a ha => ⟨_, tg_t rfl, ?_⟩) ?_
    · dsimp only [wipeY, List.set, setY]
      walk_at "v"
      exact ⟨rfl, rfl⟩
    · refine NL.fz ?_
      rw [show g.ags.map (fun a => Y.str a.nm) = (g.ags.map Ag.nm).map .str by rw [List.map_map]; rfl]
      walk_at "v"
      refine vc_p (h1 (fun e => by rw [List.map_eq_nil_iff] at e; rw [e] at a1; simp at a1) (by rw [List.length_map]; omega) (fun w hw => by
        obtain ⟨a, ha, e⟩ := List.mem_map.mp hw
        rw [← e]; exact (h.ag a ha).nm) h.an) ?_
      walk_at "v"
      exact ⟨rfl, _, _, rfl⟩
  · subst eo; subst eE
    walk_at "v"
    refine vs_for (vi_seq ?_)
    walk_at "v"
    refine ⟨_, _, .lst _, ?_⟩
    refine for_mem (fun E o => o = [] ∧ ∃ x4 x5 x8 x9, E = [some (.lst (g.ags.map yAg)), some (gSs g.outs), some (.str g.aim), some (.lst (g.nds.map yNd)), x4, x5, none, none, x8, x9]) ⟨rfl, _, _, _, _, rfl⟩ (fun w hw E o ⟨eo, x4, x5, x8, x9, eE⟩ => ?_) (fun E o ⟨eo, x4, x5, x8, x9, eE⟩ => ?_)
    · subst eo; subst eE
      obtain ⟨a, ham, rfl⟩ := List.mem_map.mp hw
      have ha := h.ag a ham
      have hk1 := ha.k1
      have hk4 := ha.k4
      refine ⟨_, tg_t rfl, ?_⟩
      dsimp only [setY, List.set]
      walk_at "v"
      refine vE_Lc false (vi_seq ?_)
      walk_at "v"
      refine ⟨_, _, .lst _, ?_⟩
      refine lc_map (f := fun k => .str k.nm) (by omega) (fun k hk => ⟨_, tg_n, ?_⟩) ?_
      · dsimp only [wipeY, List.set, yKd]
        walk_at "v"
        exact ⟨rfl, rfl⟩
      · refine NL.fz ?_
        rw [show a.ks.map (fun k => Y.str k.nm) = (a.ks.map Kd.nm).map .str by rw [List.map_map]; rfl]
        walk_at "v"
        refine vc_p (h1 (fun e => by rw [List.map_eq_nil_iff] at e; rw [e] at hk1; simp at hk1) (by rw [List.length_map]; omega) (fun w hw => by
          obtain ⟨k, hk, e⟩ := List.mem_map.mp hw
          rw [← e]; exact (ha.ks k hk).nm) ha.kn) ?_
        walk_at "v"
        refine vE_Lc false (vi_seq ?_)
        walk_at "v"
        refine ⟨_, _, .lst _, ?_⟩
        refine lc_map (f := fun _ => .bl false) (by omega) (fun k hk => ⟨_, tg_n, ?_⟩) ?_
        · have hkd := ha.ks k hk
          have bw := hkd.w
          dsimp only [wipeY, List.set, yKd]
          walk_at "v"
          refine ⟨?_, rfl⟩
          rw [decide_eq_false fun z => Rat.not_lt.mpr hkd.w0 (cmpR_lt.mp z)]
        · refine NL.fz ?_
          rw [all_false]
          walk_at "v"
          refine f_any (.lst _) ?_
          rw [any_id]
          walk_at "v"
          exact ⟨rfl, _, _, _, _, rfl⟩
    · subst eo; subst eE
      walk_at "v"
      refine vc_p (h1 (fun e => by rw [e] at o1; simp at o1) (by omega) h.os h.on) ?_
      walk_at "v"
      refine vs_for (vi_seq ?_)
      walk_at "v"
      refine ⟨_, _, .lst _, ?_⟩
      refine for_mem (fun E o => o = [] ∧ ∃ x4 x5 x8 x9, E = [some (.lst (g.ags.map yAg)), some (gSs g.outs), some (.str g.aim), some (.lst (g.nds.map yNd)), x4, x5, none, none, x8, x9]) ⟨rfl, _, _, _, _, rfl⟩ (fun w hw E o ⟨eo, x4, x5, x8, x9, eE⟩ => ?_) (fun E o ⟨eo, x4, x5, x8, x9, eE⟩ => ?_)
      · subst eo; subst eE
        obtain ⟨a, ham, rfl⟩ := List.mem_map.mp hw
        have ha := h.ag a ham
        have hk4 := ha.k4
        refine ⟨_, tg_t rfl, ?_⟩
        dsimp only [setY, List.set]
        walk_at "v"
        refine vE_Lc false (vi_seq ?_)
        walk_at "v"
        refine ⟨_, _, .lst _, ?_⟩
        refine lc_map (f := fun _ => .bl false) (by omega) (fun k hk => ⟨_, tg_n, ?_⟩) ?_
        · have hkd := ha.ks k hk
          dsimp only [wipeY, List.set, yKd]
          walk_at "v"
          rw [List.length_map, List.length_map, hkd.wl, decide_eq_true rfl]
          exact ⟨rfl, rfl⟩
        · refine NL.fz ?_
          rw [all_false]
          walk_at "v"
          refine f_any (.lst _) ?_
          rw [any_id]
          walk_at "v"
          exact ⟨rfl, _, _, _, _, rfl⟩
      · subst eo; subst eE
        walk_at "w"
        refine vs_cut (fun E o => o = [] ∧ E = [some (.lst (g.ags.map yAg)), some (gSs g.outs), some (.str g.aim), some (.lst (g.nds.map yNd)), x4, x5, none, none, x8, x9]) ?_ (fun E o ⟨eo, eE⟩ => ?_)
        · rcases h.am with e | e | e <;> rw [e] <;>
            (walk_at "v"
             refine c_ninT rfl rfl ?_
             refine tb_eq (b2 := false) (by decide +kernel) ?_
             walk_at "v"
             exact ⟨rfl, rfl⟩)
        · subst eo; subst eE
          refine vs_for (vi_enum ?_)
          walk_at "v"
          refine ⟨_, _, .lst _, ?_⟩
          refine for_enumI (fun t E o => o = [] ∧ ∃ x6 x7, E = [some (.lst (g.ags.map yAg)), some (gSs g.outs), some (.str g.aim), some (.lst (g.nds.map yNd)), x4, x5, x6, x7, x8, x9]) ⟨rfl, _, _, rfl⟩ (fun t ht' E o ⟨eo, x6, x7, eE⟩ => ?_) (fun E o ⟨eo, x6, x7, eE⟩ => ?_)
          · subst eo; subst eE
            have hd := h.nd _ (List.getElem_mem ht')
            have hx : ∀ x ∈ g.nds.take t, exN x g.nds[t] = false := fun x hx => by
              obtain ⟨i, hi, e⟩ := List.mem_iff_getElem.mp hx
              rw [List.length_take] at hi
              rw [List.getElem_take] at e
              have := List.pairwise_iff_getElem.mp h.nx i t (by omega) ht' (by omega)
              rw [← e]
              exact this
            generalize g.nds[t] = d at *
            refine ⟨_, tg_t rfl, ?_⟩
            dsimp only [setY, List.set]
            walk_at "v"
            rw [List.length_map, List.length_map]
            refine vc_p (h3 (by omega) hd) ?_
            walk_at "v"
            rw [cutY_to, ← List.map_take]
            refine vc_p (h2 (by rw [List.length_take]; omega) hx) ?_
            walk_at "v"
            exact ⟨rfl, _, _, rfl⟩
          · subst eo; subst eE
            walk_at "v"
def CpKinds (f : FD) : Prop := ∀ {ks : List Kd}, ks.length ≤ 1000 → VP f [.lst (ks.map yKd)] (.lst (ks.map yKd))
theorem cpkinds_ok : CpKinds P_copied_kinds := fun {ks} hl => by
  have hszl : szl = 16777216 := rfl
  refine vp_run ?_
  walk_at "v0"
  walk_at "v"
  refine vE_Lc false (vi_seq ?_)
  walk_at "v"
  refine ⟨_, _, .lst _, ?_⟩
  refine lc_map (f := yKd) (by omega) (fun k hk => ⟨_, tg_t rfl, ?_⟩) ?_
  · dsimp only [wipeY, List.set, setY]
    walk_at "v"
    exact ⟨rfl, rfl⟩
  · refine NL.fz ?_
    walk_at "v"
def CpNeed (f : FD) : Prop := ∀ {d : Nd}, VP f [yNd d] (yNd d)
inductive IsPart : Y → Prop
  | lst (zs : List Y) : IsPart (.lst zs)
  | str (s : Str) : IsPart (.str s)
  | int (i : Int) : IsPart (.int i)
  | rat (q : Rat) : IsPart (yR q)
theorem cp_tup {ps : List Y} (hl : ps.length ≤ 1000) (hp : ∀ p ∈ ps, IsPart p) : VP P_copied_need [.tup ps] (.tup ps) := by
  have hszl : szl = 16777216 := rfl
  refine vp_run ?_
  walk_at "v0"
  walk_at "vl"
  refine vE_Lst true ?_
  walk_at "v"
  rename_i q hq
  refine vs_for (vi_seqT ?_)
  walk_at "v"
  refine ⟨_, rfl, ?_⟩
  refine for_ix (fun t E o => o = [(q, .lst (ps.take t))] ∧ ∃ a, E = [some (.tup ps), some (.own q), a]) ⟨by rw [List.take_zero], _, rfl⟩ (fun t ht' E o ⟨eo, a, eE⟩ => ?_) (fun E o ⟨eo, a, eE⟩ => ?_)
  · subst eo; subst eE
    have hp1 := hp _ (List.getElem_mem ht')
    have e1 := List.take_succ_eq_append_getElem ht'
    rw [e1]
    have hlt : (ps.take t).length < szl := by rw [List.length_take]; omega
    generalize ps[t] = p at *
    refine ⟨_, tg_n, ?_⟩
    walk_at "set"
    cases hp1 with
    | lst zs =>
      walk_at "v"
      refine ⟨chk_L (.own .here), ?_⟩
      walk_at "v"
      refine m_append' .here hlt ?_
      walk_at "v"
      exact ⟨rfl, _, rfl⟩
    | str s =>
      walk_at "v"
      refine ⟨chk_L (.own .here), ?_⟩
      walk_at "v"
      refine m_append' .here hlt ?_
      walk_at "v"
      exact ⟨rfl, _, rfl⟩
    | int s =>
      walk_at "v"
      refine ⟨chk_L (.own .here), ?_⟩
      walk_at "v"
      refine m_append' .here hlt ?_
      walk_at "v"
      exact ⟨rfl, _, rfl⟩
    | rat s =>
      walk_at "v"
      refine ⟨chk_L (.own .here), ?_⟩
      walk_at "v"
      refine m_append' .here hlt ?_
      walk_at "v"
      exact ⟨rfl, _, rfl⟩
  · subst eo; subst eE
    rw [List.take_length]
    walk_at "v"
    refine f_tuple (.own .here) ?_
    walk_at "v"
theorem nd_tup (d : Nd) : ∃ ps, yNd d = .tup ps ∧ ps.length ≤ 4 ∧ ∀ p ∈ ps, IsPart p := by
  cases d with
  | part => exact ⟨_, rfl, by decide, fun p hp => by rw [List.mem_singleton.mp hp]; exact .str _⟩
  | budget => exact ⟨_, rfl, by decide, fun p hp => by rw [List.mem_singleton.mp hp]; exact .str _⟩
  | even => exact ⟨_, rfl, by decide, fun p hp => by rw [List.mem_singleton.mp hp]; exact .str _⟩
  | bound q => exact ⟨_, rfl, by simp, fun p hp => by
      rcases List.mem_cons.mp hp with e | hp
      · rw [e]; exact .str _
      · rw [List.mem_singleton.mp hp]; exact .rat _⟩
  | envy a b s => exact ⟨_, rfl, by simp, fun p hp => by
      rcases List.mem_cons.mp hp with e | hp
      · rw [e]; exact .str _
      · rcases List.mem_cons.mp hp with e | hp
        · rw [e]; exact .int _
        · rcases List.mem_cons.mp hp with e | hp
          · rw [e]; exact .int _
          · rw [List.mem_singleton.mp hp]; exact .lst _⟩
  | order a c => exact ⟨_, rfl, by simp, fun p hp => by
      rcases List.mem_cons.mp hp with e | hp
      · rw [e]; exact .str _
      · rcases List.mem_cons.mp hp with e | hp
        · rw [e]; exact .int _
        · rw [List.mem_singleton.mp hp]; exact .lst _⟩
theorem cpneed_ok : CpNeed P_copied_need := fun {d} => by
  obtain ⟨ps, e, hl, hp⟩ := nd_tup d
  rw [e]
  exact cp_tup (by omega) hp
def fsG (g : Gm) : List (Nat × Y) := [(13, .lst (g.ags.map yAg)), (62, gSs g.outs), (14, .str g.aim), (64, .bl g.pay), (52, .bl g.lots), (56, .lst (g.nds.map yNd))]
def yGm (g : Gm) : Y := .ins 43 (fsG g)
def InitG (f : FD) : Prop := ∀ {g : Gm}, GmOk g → prodK g ≤ 16 → ∀ (o' : OC) (n : Nat), VF f [.own n, .lst (g.ags.map yAg), gSs g.outs, .str g.aim, .bl g.pay, .bl g.lots, .lst (g.nds.map yNd)] ((n, .ins 43 []) :: o') (fun r o2 => r = .non ∧ ∃ o3, Rm o2 n (.ins 43 (fsG g)) o3 ∧ o3 = o') noq
theorem initG_ok {cg cl ck cn : FD} (h1 : CkGame cg) (h2 : CkLim cl) (h3 : CpKinds ck) (h4 : CpNeed cn) : InitG (P_Game___init__ cg cl ck cn) := fun {g} h hp o' n => by
  have hszl : szl = 16777216 := rfl
  have a3 := h.a3
  have n12 := h.nl
  refine vf_run ?_
  walk_at "v0"
  walk_at "v"
  refine vc_p (h2 h hp) ?_
  walk_at "v"
  refine vc_p (h1 h) ?_
  walk_at "v"
  refine vE_Lc false (vi_seq ?_)
  walk_at "v"
  refine ⟨_, _, .lst _, ?_⟩
  refine lc_map (f := yAg) (by omega) (fun a ha => ⟨_, tg_t rfl, ?_⟩) ?_
  · have hk4 := (h.ag a ha).k4
    dsimp only [wipeY, List.set, setY]
    walk_at "v"
    refine vc_p (h3 (by omega)) ?_
    walk_at "v"
    exact ⟨rfl, rfl⟩
  · refine NL.fz ?_
    walk_at "v"
    refine vE_Lc false (vi_seq ?_)
    walk_at "v"
    refine ⟨_, _, .lst _, ?_⟩
    refine lc_map (f := yNd) (by omega) (fun d hd => ⟨_, tg_n, ?_⟩) ?_
    · dsimp only [wipeY, List.set]
      walk_at "v"
      refine vc_p h4 ?_
      exact ⟨rfl, rfl⟩
    · refine NL.fz ?_
      walk_at "v"
      exact ret_v (List.Sublist.refl _) ⟨rfl, _, .here, rfl⟩
end
section
def LCpA (f : FD) : Prop := ∀ {ags : List Ag}, ags.length ≤ 1000 → (∀ a ∈ ags, a.ks.length ≤ 1000) → VP f [.lst (ags.map yAg)] (.lst (ags.map yAg))
theorem lcpa_ok : LCpA P__law_copy_agents := fun {ags} hl hk => by
  have hszl : szl = 16777216 := rfl
  refine vp_run ?_
  walk_at "v0"
  walk_at "v"
  refine vE_Lc false (vi_seq ?_)
  walk_at "v"
  refine ⟨_, _, .lst _, ?_⟩
  refine lc_map (f := yAg) (by omega) (fun a ha => ⟨_, tg_n, ?_⟩) ?_
  · have hk4 := hk a ha
    dsimp only [wipeY, List.set, yAg]
    walk_at "v"
    refine vE_Lc false (vi_seq ?_)
    walk_at "v"
    refine ⟨_, _, .lst _, ?_⟩
    refine lc_map (f := yKd) (by omega) (fun k hk => ⟨_, tg_n, ?_⟩) ?_
    · dsimp only [wipeY, List.set, yKd]
      walk_at "v"
      exact ⟨rfl, rfl⟩
    · refine NL.fz ?_
      walk_at "v"
      exact ⟨rfl, rfl⟩
  · refine NL.fz ?_
    walk_at "v"
def LCpN (f : FD) : Prop := ∀ {nds : List Nd}, nds.length ≤ 1000 → VP f [.lst (nds.map yNd)] (.lst (nds.map yNd))
theorem lcpn_ok : LCpN P__law_copy_needs := fun {nds} hl => by
  have hszl : szl = 16777216 := rfl
  refine vp_run ?_
  walk_at "v0"
  walk_at "vl"
  refine vE_Lst true ?_
  walk_at "v"
  rename_i q hq
  refine vs_for (vi_seq ?_)
  walk_at "v"
  refine ⟨_, _, .lst _, ?_⟩
  refine for_mapI (fun t E o => o = [(q, .lst ((nds.take t).map yNd))] ∧ ∃ a b, E = [some (.lst (nds.map yNd)), some (.own q), a, b]) ⟨by rw [List.take_zero]; rfl, _, _, rfl⟩ (fun t ht' E o ⟨eo, a, b, eE⟩ => ?_) (fun E o ⟨eo, a, b, eE⟩ => ?_)
  · subst eo; subst eE
    have e1 := List.take_succ_eq_append_getElem ht'
    rw [e1, List.map_append]
    have hlt : ((nds.take t).map yNd).length < szl := by rw [List.length_map, List.length_take]; omega
    generalize nds[t] = d at *
    refine ⟨_, tg_n, ?_⟩
    walk_at "set"
    cases d with
    | part =>
      unfold yNd
      walk_at "v"
      refine ⟨chk_L (.own .here), ?_⟩
      walk_at "v"
      refine m_append' .here hlt ?_
      walk_at "v"
      exact ⟨rfl, _, _, rfl⟩
    | budget =>
      unfold yNd
      walk_at "v"
      refine ⟨chk_L (.own .here), ?_⟩
      walk_at "v"
      refine m_append' .here hlt ?_
      walk_at "v"
      exact ⟨rfl, _, _, rfl⟩
    | even =>
      unfold yNd
      walk_at "v"
      refine ⟨chk_L (.own .here), ?_⟩
      walk_at "v"
      refine m_append' .here hlt ?_
      walk_at "v"
      exact ⟨rfl, _, _, rfl⟩
    | bound r =>
      unfold yNd
      walk_at "v"
      refine ⟨chk_L (.own .here), ?_⟩
      walk_at "v"
      refine m_append' .here hlt ?_
      walk_at "v"
      exact ⟨rfl, _, _, rfl⟩
    | envy a0 b0 s0 =>
      unfold yNd
      walk_at "v"
      refine ⟨chk_L (.own .here), ?_⟩
      walk_at "v"
      rw [show cutY [Y.str "envy", Y.int (a0 : Nat), Y.int (b0 : Nat), gIs s0] none (some (([Y.str "envy", Y.int (a0 : Nat), Y.int (b0 : Nat), gIs s0].length : Int) - 1)) = [Y.str "envy", Y.int (a0 : Nat), Y.int (b0 : Nat)] from cutY_to (k := 3)]
      refine b_addT (by simp) (by show 4 ≤ szl; omega) ?_
      walk_at "v"
      refine m_append' .here hlt ?_
      walk_at "v"
      exact ⟨rfl, _, _, rfl⟩
    | order a0 c0 =>
      unfold yNd
      walk_at "v"
      refine ⟨chk_L (.own .here), ?_⟩
      walk_at "v"
      rw [show cutY [Y.str "order", Y.int (a0 : Nat), gIs c0] none (some (([Y.str "order", Y.int (a0 : Nat), gIs c0].length : Int) - 1)) = [Y.str "order", Y.int (a0 : Nat)] from cutY_to (k := 2)]
      refine b_addT (by simp) (by show 3 ≤ szl; omega) ?_
      walk_at "v"
      refine m_append' .here hlt ?_
      walk_at "v"
      exact ⟨rfl, _, _, rfl⟩
  · subst eo; subst eE
    rw [List.take_length]
    refine vs_freeze (n := q) .here (by walk_at "fz") ?_
    walk_at "v"
def LMadeG (f : FD) : Prop := ∀ {g : Gm}, GmOk g → prodK g ≤ 16 → VP f [yGd g] (yGm g)
theorem initG_new {f : FD} (hf : InitG f) {g : Gm} {o : OC} {Q : Y → OC → Prop} {X : XQ} (h : GmOk g) (hp : prodK g ≤ 16) (q : Q (yGm g) o) :
    VNew 43 f (fun n => gKP [.p 0, .p 1, .p 2, .k 0, .k 1, .k 2, .k 3] [.own n, .lst (g.ags.map yAg), gSs g.outs] [] [.str g.aim, .bl g.pay, .bl g.lots, .lst (g.nds.map yNd)]) o Q X := fun n hn => by
  show VF f [.own n, .lst (g.ags.map yAg), gSs g.outs, .str g.aim, .bl g.pay, .bl g.lots, .lst (g.nds.map yNd)] ((n, .ins 43 []) :: o) _ X
  exact (hf h hp o n).mono (fun r o2 ⟨e1, o3, e2, e3⟩ => ⟨e1, .inr ⟨_, o3, e2, by rw [e3]; exact q⟩⟩) fun _ _ z => z.elim
theorem lmadeg_ok {ig ca cn : FD} (h1 : InitG ig) (h2 : LCpA ca) (h3 : LCpN cn) : LMadeG (P__law_made_2 ig ca cn) := fun {g} h hp => by
  have a3 := h.a3
  have n12 := h.nl
  refine vp_run ?_
  unfold yGd
  walk_at "v0"
  walk_at "v"
  refine vE_MkK (ws := []) (fun _ => .nil) ?_
  walk_at "v"
  refine vc_p (h2 (by omega) (fun a ha => by have := (h.ag a ha).k4; omega)) ?_
  walk_at "v"
  refine vc_p (h3 (by omega)) ?_
  walk_at "v"
  refine initG_new h1 h hp ?_
  walk_at "v"
end
section
noncomputable def P_profiles : FD := fnRun (sSq (sAs (dLst (aC (dTup aN) aN)) (ofG (gN 1)))
    (sSq (sFor (iSeq (dFld 13 (dV 0))) (gT [2, 3]) (sAs (dLc2 (iSeq (dV 1)) (gN 4) tY (iRange1 (dCall fLen (aC (dV 3) aN) [])) (gN 5) tY (dB .Add (dV 4) (dTup (aC (dV 5) aN))) [4, 5] [5]) (ofG (gN 1))))
    (sRt (dV 1)))) 6
noncomputable def P__law_profiles : FD := fnRun (sSq (sAs (dLst (aC (dTup aN) aN)) (ofG (gN 1)))
    (sSq (sFor (iSeq (dV 0)) (gN 2) (sSq (sAs (dLst aN) (ofG (gN 3)))
    (sSq (sFor (iSeq (dCall fList (aC (dV 1) aN) [])) (gN 4) (sFor (iRange1 (dCall fLen (aC (dIx (dV 2) (dC (.int 1))) aN) [])) (gN 5) (sEx (dM chkL mAppend (dV 3) (aC (dB .Add (dV 4) (dTup (aC (dV 5) aN))) aN)))))
    (sAs (dV 3) (ofG (gN 1))))))
    (sRt (dV 1)))) 6
def stepP (rows : List (List Nat)) (a : Ag) : List (List Nat) := rows.flatMap fun r => (List.range a.ks.length).map fun k => r ++ [k]
def profsL (ags : List Ag) : List (List Nat) := ags.foldl stepP [[]]
abbrev yPf (r : List Nat) : Y := .tup (r.map fun k => .int (k : Nat))
theorem step_len (rows : List (List Nat)) (a : Ag) : (stepP rows a).length = rows.length * a.ks.length := by
  unfold stepP
  induction rows with
  | nil => simp
  | cons r rows ih => rw [List.flatMap_cons, List.length_append, ih, List.length_map, List.length_range, List.length_cons, Nat.succ_mul, Nat.add_comm]
theorem profs_len (g : Gm) : (profsL g.ags).length = prodK g := by
  unfold profsL prodK
  have : ∀ (ags : List Ag) (rows : List (List Nat)) (m : Nat), rows.length = m → (ags.foldl stepP rows).length = (ags.map fun a => a.ks.length).foldl (· * ·) m := by
    intro ags
    induction ags with
    | nil => intro rows m h; exact h
    | cons a ags ih =>
      intro rows m h
      rw [List.foldl_cons, List.map_cons, List.foldl_cons]
      exact ih _ _ (by rw [step_len, h])
  exact this g.ags [[]] 1 rfl
def Profs (f : FD) : Prop := ∀ {g : Gm}, GmOk g → VP f [yGm g] (.lst ((profsL g.ags).map yPf))
theorem profs_bdA {ags : List Ag} (h : ∀ a ∈ ags, a.ks.length ≤ 4) : ∀ t, t ≤ ags.length → ((ags.take t).foldl stepP [[]]).length ≤ 4 ^ t := by
  intro t
  induction t with
  | zero => intro _; simp
  | succ t ih =>
    intro ht
    rw [List.take_succ_eq_append_getElem (show t < ags.length by omega), List.foldl_append]
    show (stepP _ _).length ≤ _
    rw [step_len, Nat.pow_succ]
    exact Nat.mul_le_mul (ih (by omega)) (h _ (List.getElem_mem _))
theorem profs_bd {g : Gm} (h : GmOk g) : ∀ t, t ≤ g.ags.length → ((g.ags.take t).foldl stepP [[]]).length ≤ 4 ^ t := profs_bdA fun a ha => (h.ag a ha).k4
theorem p64 {t : Nat} (h : t ≤ 3) : 4 ^ t ≤ 64 := by
  have : t = 0 ∨ t = 1 ∨ t = 2 ∨ t = 3 := by omega
  rcases this with rfl | rfl | rfl | rfl <;> decide
theorem map_flat (rows : List (List Nat)) (c : Nat) : (rows.flatMap fun r => (List.range c).map fun k => Y.tup (r.map (fun k => Y.int (k : Nat)) ++ [.int (k : Nat)])) = (rows.flatMap fun r => (List.range c).map fun k => r ++ [k]).map yPf := by
  rw [List.map_flatMap]
  congr 1
  funext r
  rw [List.map_map]
  refine List.map_congr_left fun k _ => ?_
  simp
theorem step_mem {rows : List (List Nat)} {a : Ag} {r : List Nat} (h : r ∈ stepP rows a) : ∃ r0 ∈ rows, ∃ k, k < a.ks.length ∧ r = r0 ++ [k] := by
  unfold stepP at h
  obtain ⟨r0, h0, h1⟩ := List.mem_flatMap.mp h
  obtain ⟨k, hk, rfl⟩ := List.mem_map.mp h1
  exact ⟨r0, h0, k, List.mem_range.mp hk, rfl⟩
theorem profs_mem (ags : List Ag) : ∀ t, t ≤ ags.length → ∀ r ∈ (ags.take t).foldl stepP [[]], r.length = t := by
  intro t
  induction t with
  | zero => intro _ r hr; rw [List.mem_singleton.mp hr]; rfl
  | succ t ih =>
    intro ht r hr
    rw [List.take_succ_eq_append_getElem (show t < ags.length by omega), List.foldl_append] at hr
    obtain ⟨r0, h0, k, _, rfl⟩ := step_mem hr
    rw [List.length_append, ih (by omega) r0 h0]
    rfl
theorem profs_ok : Profs P_profiles := fun {g} h => by
  have hszl : szl = 16777216 := rfl
  have a3 := h.a3
  refine vp_run ?_
  unfold yGm fsG
  walk_at "v0"
  walk_at "v"
  refine vs_for (vi_seq ?_)
  walk_at "v"
  refine ⟨_, _, .lst _, ?_⟩
  refine for_mapI (fun t E o => o = [] ∧ ∃ a b, E = [some (yGm g), some (.lst (((g.ags.take t).foldl stepP [[]]).map yPf)), a, b, none, none]) ⟨rfl, _, _, rfl⟩ (fun t ht' E o ⟨eo, a, b, eE⟩ => ?_) (fun E o ⟨eo, a, b, eE⟩ => ?_)
  · subst eo; subst eE
    have hb := profs_bd h t (by omega)
    have h64 := p64 (show t ≤ 3 by omega)
    have hk4 := (h.ag _ (List.getElem_mem ht')).k4
    rw [List.take_succ_eq_append_getElem ht', List.foldl_append]
    have hrl := profs_mem g.ags t (by omega)
    generalize (g.ags.take t).foldl stepP [[]] = rows at *
    generalize g.ags[t] = ag at *
    refine ⟨_, tg_t rfl, ?_⟩
    dsimp only [setY, List.set]
    walk_at "v"
    refine vE_Lc2 (α := List Nat) yPf (fun _ => ag.ks.length) (fun r k => .tup (r.map (fun k => Y.int (k : Nat)) ++ [.int (k : Nat)])) (vi_seq ?_)
    walk_at "v"
    refine ⟨_, _, .lst _, rows, rfl, rfl, ⟨?_, fun r hr => ⟨by show ag.ks.length < 16777216; omega, _, tg_n, ?_, fun k hk => ⟨_, tg_n, ?_⟩⟩⟩, ?_⟩
    · rw [map_flat, List.length_map]
      have := step_len rows ag
      unfold stepP at this
      rw [this]
      have : rows.length * ag.ks.length ≤ 64 * 4 := Nat.mul_le_mul (by omega) hk4
      omega
    · dsimp only [wipeY, List.set]
      walk_at "v"
      exact ⟨by rw [List.length_map], rfl⟩
    · dsimp only [wipeY, List.set]
      walk_at "v"
      refine b_addT0 (by
        have := hrl r hr
        rw [List.length_map]
        show r.length + 1 ≤ szl
        omega) ?_
      exact ⟨rfl, rfl⟩
    · walk_at "v"
      rw [map_flat]
      exact ⟨rfl, _, _, rfl⟩
  · subst eo; subst eE
    rw [List.take_length]
    walk_at "v"
    rfl
theorem stepP_take {rows : List (List Nat)} {a : Ag} {t : Nat} (h : t < rows.length) : stepP (rows.take (t + 1)) a = stepP (rows.take t) a ++ (List.range a.ks.length).map fun k => rows[t] ++ [k] := by
  unfold stepP
  rw [List.take_succ_eq_append_getElem h, List.flatMap_append, List.flatMap_cons, List.flatMap_nil, List.append_nil]
def LProfsA (f : FD) : Prop := ∀ {ags : List Ag}, ags.length ≤ 3 → (∀ a ∈ ags, a.ks.length ≤ 4) → VP f [.lst (ags.map yAg)] (.lst ((profsL ags).map yPf))
theorem lprofsA_ok : LProfsA P__law_profiles := fun {ags} a3 hk => by
  have hszl : szl = 16777216 := rfl
  refine vp_run ?_
  walk_at "v0"
  walk_at "v"
  refine vs_for (vi_seq ?_)
  walk_at "v"
  refine ⟨_, _, .lst _, ?_⟩
  refine for_mapI (fun t E o => o = [] ∧ ∃ a b c d, E = [some (.lst (ags.map yAg)), some (.lst (((ags.take t).foldl stepP [[]]).map yPf)), a, b, c, d]) ⟨rfl, _, _, _, _, rfl⟩ (fun t ht' E o ⟨eo, a, b, c, d, eE⟩ => ?_) (fun E o ⟨eo, a, b, c, d, eE⟩ => ?_)
  · subst eo; subst eE
    have hb := profs_bdA hk t (by omega)
    have h64 := p64 (show t ≤ 3 by omega)
    have hk4 := hk _ (List.getElem_mem ht')
    have hrl := profs_mem ags t (by omega)
    rw [List.take_succ_eq_append_getElem ht', List.foldl_append]
    generalize (ags.take t).foldl stepP [[]] = rows at *
    generalize ags[t] = ag at *
    refine ⟨_, tg_n, ?_⟩
    dsimp only [List.set]
    walk_at "vl"
    refine vE_Lst true ?_
    walk_at "v"
    rename_i q hq
    refine vs_for (vi_seq ?_)
    walk_at "v"
    refine ⟨_, _, .lst _, ?_⟩
    refine for_mapI (fun t E o => o = [(q, .lst ((stepP (rows.take t) ag).map yPf))] ∧ ∃ c d, E = [some (.lst (ags.map yAg)), some (.lst (rows.map yPf)), some (yAg ag), some (.own q), c, d]) ⟨rfl, _, _, rfl⟩ (fun t ht' E o ⟨eo, c, d, eE⟩ => ?_) (fun E o ⟨eo, c, d, eE⟩ => ?_)
    · subst eo; subst eE
      refine ⟨_, tg_n, ?_⟩
      dsimp only [List.set]
      refine vs_for (vi_range1 ?_)
      unfold yAg
      walk_at "v"
      rw [List.length_map]
      refine ⟨_, rfl, ⟨by omega, by omega⟩, ?_⟩
      have hsl : (stepP (rows.take t) ag).length ≤ 256 := by
        rw [step_len]
        have : (rows.take t).length * ag.ks.length ≤ 64 * 4 := Nat.mul_le_mul (by rw [List.length_take]; omega) hk4
        omega
      have hr := hrl _ (List.getElem_mem ht')
      rw [stepP_take ht']
      generalize stepP (rows.take t) ag = done at *
      generalize rows[t] = r at *
      refine for_rng (fun j E o => o = [(q, .lst ((done ++ (List.range j).map fun k => r ++ [k]).map yPf))] ∧ ∃ d, E = [some (.lst (ags.map yAg)), some (.lst (rows.map yPf)), some (yAg ag), some (.own q), some (yPf r), d]) ⟨by simp, _, rfl⟩ (fun j E o hj ⟨eo, d, eE⟩ => ?_) (fun E o ⟨eo, d, eE⟩ => ?_)
      · subst eo; subst eE
        refine ⟨_, tg_n, ?_⟩
        dsimp only [List.set]
        walk_at "v"
        refine ⟨chk_L (.own .here), ?_⟩
        walk_at "v"
        refine b_addT0 (ys := r.map fun k => Y.int (k : Nat)) ?_ ?_
        · rw [List.length_map]
          show r.length + 1 ≤ szl
          omega
        walk_at "v"
        refine m_append' .here (by rw [List.length_map, List.length_append, List.length_map, List.length_range]; omega) ?_
        walk_at "v"
        refine ⟨?_, _, rfl⟩
        rw [List.range_succ, Int.zero_add]
        simp
      · subst eo; subst eE
        walk_at "v"
        exact ⟨by simp, _, _, rfl⟩
    · subst eo; subst eE
      rw [List.take_length]
      refine sq_nx ?_
      refine vs_freeze (n := q) .here (by walk_at "fz") ?_
      walk_at "v"
      exact ⟨rfl, _, _, _, _, rfl⟩
  · subst eo; subst eE
    rw [List.take_length]
    walk_at "v"
    rfl
end
section
section
variable {o : OC} {Q : Y → OC → Prop} {X : XQ}
end
end
section
theorem prodK_pos {g : Gm} (h : GmOk g) : 1 ≤ prodK g := by
  have : ∀ (ags : List Ag) (m : Nat), (∀ a ∈ ags, 1 ≤ a.ks.length) → 1 ≤ m → 1 ≤ (ags.map fun a => a.ks.length).foldl (· * ·) m := by
    intro ags
    induction ags with
    | nil => intro m _ h; exact h
    | cons a ags ih =>
      intro m ha hm
      rw [List.map_cons, List.foldl_cons]
      exact ih _ (fun b hb => ha b (List.mem_cons_of_mem _ hb)) (Nat.mul_le_mul hm (ha a (List.mem_cons_self ..)))
  exact this g.ags 1 (fun a ha => (h.ag a ha).k1) (Nat.le_refl _)
theorem prodK_pow {g : Gm} {m : Nat} (h : ∀ a ∈ g.ags, a.ks.length ≤ m) : prodK g ≤ m ^ g.ags.length := by
  have : ∀ (ags : List Ag) (c : Nat), (∀ a ∈ ags, a.ks.length ≤ m) → (ags.map fun a => a.ks.length).foldl (· * ·) c ≤ c * m ^ ags.length := by
    intro ags
    induction ags with
    | nil => intro c _; simp
    | cons a ags ih =>
      intro c ha
      rw [List.map_cons, List.foldl_cons, List.length_cons, Nat.pow_succ]
      refine Nat.le_trans (ih _ fun b hb => ha b (List.mem_cons_of_mem _ hb)) ?_
      rw [Nat.mul_assoc, Nat.mul_comm (m ^ _) m]
      exact Nat.mul_le_mul_left _ (Nat.mul_le_mul_right _ (ha a (List.mem_cons_self ..)))
  have := this g.ags 1 h
  rw [Nat.one_mul] at this
  exact this
end
section
noncomputable def P_profile_number (c_is_index : FD) : FD := fnRun (sSq (sIf (tB (dCmp .NotEq (dCall fLen (aC (dV 1) aN) []) (dCall fLen (aC (dFld 13 (dV 0)) aN) []))) (sRaiseA 11 [67] (aC (dV 1) aN)) sNx)
    (sSq (sAs (dC (.int 0)) (ofG (gN 2)))
    (sSq (sFor (iEnum (dV 1)) (gT [3, 4]) (sSq (sAs (dCall fLen (aC (dIx (dIx (dFld 13 (dV 0)) (dV 3)) (dC (.int 1))) aN) []) (ofG (gN 5)))
    (sSq (sIf (tNot (tE (dCall c_is_index (aC (dV 4) (aC (dV 5) aN)) []))) (sRaiseA 11 [67] (aC (dV 1) aN)) sNx)
    (sAs (dB .Add (dB .Mult (dV 2) (dV 5)) (dV 4)) (ofG (gN 2))))))
    (sRt (dV 2))))) 6
noncomputable def P_with_kind : FD := fnRun (sRt (dB .Add (dB .Add (dSl (dV 0) oN (oS (dV 1))) (dTup (aC (dV 2) aN))) (dSl (dV 0) (oS (dB .Add (dV 1) (dC (.int 1)))) oN))) 3
noncomputable def P__law_times_3 (c__law_make : FD) : FD := fnRun (sRt (dCall c__law_make (aC (dB .Mult (dIx (dV 0) (dC (.int 0))) (dIx (dV 1) (dC (.int 0)))) (aC (dB .Mult (dIx (dV 0) (dC (.int 1))) (dIx (dV 1) (dC (.int 1)))) aN)) [])) 2
def kC (ags : List Ag) (i : Nat) : Nat := (ags.map fun a => a.ks.length).getD i 0
def pfT (ags : List Ag) (t : Nat) : List (List Nat) := (ags.take t).foldl stepP [[]]
def numT (ags : List Ag) (p : List Nat) : Nat → Nat
  | 0 => 0
  | t + 1 => numT ags p t * kC ags t + p.getD t 0
theorem kC_at {ags : List Ag} {t : Nat} (h : t < ags.length) : kC ags t = ags[t].ks.length := by
  unfold kC
  rw [List.getD_eq_getElem?_getD, List.getElem?_map, List.getElem?_eq_getElem h]
  rfl
theorem pfT_succ {ags : List Ag} {t : Nat} (h : t < ags.length) : pfT ags (t + 1) = stepP (pfT ags t) ags[t] := by
  unfold pfT
  rw [List.take_succ_eq_append_getElem h, List.foldl_append]
  rfl
theorem pfT_all (ags : List Ag) : pfT ags ags.length = profsL ags := by
  unfold pfT profsL
  rw [List.take_length]
theorem numT_congr {ags : List Ag} {p q : List Nat} : ∀ t, (∀ i, i < t → p.getD i 0 = q.getD i 0) → numT ags p t = numT ags q t
  | 0, _ => rfl
  | t + 1, h => by
    unfold numT
    rw [numT_congr t fun i hi => h i (by omega), h t (by omega)]
theorem step_at {a : Ag} : ∀ {rows : List (List Nat)} {i k : Nat} {r : List Nat}, rows[i]? = some r → k < a.ks.length → (stepP rows a)[i * a.ks.length + k]? = some (r ++ [k])
  | r0 :: rows, 0, k, r, h, hk => by
    cases h
    unfold stepP
    rw [List.flatMap_cons, Nat.zero_mul, Nat.zero_add, List.getElem?_append_left (by rw [List.length_map, List.length_range]; exact hk), List.getElem?_map, List.getElem?_range hk]
    rfl
  | r0 :: rows, i + 1, k, r, h, hk => by
    have := step_at (a := a) (rows := rows) (i := i) (k := k) (r := r) (by simpa using h) hk
    unfold stepP at this ⊢
    rw [List.flatMap_cons, List.getElem?_append_right (by rw [List.length_map, List.length_range, Nat.succ_mul]; omega), List.length_map, List.length_range]
    rw [show (i + 1) * a.ks.length + k - a.ks.length = i * a.ks.length + k by rw [Nat.succ_mul]; omega]
    exact this
structure PfAt (ags : List Ag) (t : Nat) (q : List Nat) : Prop where
  l : q.length = t
  k : ∀ i, i < t → q.getD i 0 < kC ags i
abbrev PfOk (ags : List Ag) (q : List Nat) : Prop := PfAt ags ags.length q
theorem getD_app {r : List Nat} {k i : Nat} : (r ++ [k]).getD i 0 = if i < r.length then r.getD i 0 else if i = r.length then k else 0 := by
  rw [List.getD_eq_getElem?_getD, List.getElem?_append]
  split
  · rw [List.getD_eq_getElem?_getD]
  · rename_i h
    split
    · rename_i h2
      subst h2
      simp
    · rw [List.getElem?_eq_none (by simp; omega)]
      rfl
theorem at_pf {ags : List Ag} (h1 : ∀ a ∈ ags, 1 ≤ a.ks.length) : ∀ t, t ≤ ags.length → ∀ j q, (pfT ags t)[j]? = some q → PfAt ags t q ∧ numT ags q t = j
  | 0, _, j, q, h => by
    have h : ([[]] : List (List Nat))[j]? = some q := h
    cases j with
    | zero => cases h; exact ⟨⟨rfl, fun _ h => absurd h (Nat.not_lt_zero _)⟩, rfl⟩
    | succ j => simp at h
  | t + 1, ht, j, q, h => by
    rw [pfT_succ (by omega)] at h
    have hc := h1 _ (List.getElem_mem (show t < ags.length by omega))
    have hkc : kC ags t = ags[t].ks.length := kC_at (by omega)
    have hj : j < (stepP (pfT ags t) ags[t]).length := (List.getElem?_eq_some_iff.mp h).1
    rw [step_len] at hj
    have hi : j / ags[t].ks.length < (pfT ags t).length := by
      rw [Nat.div_lt_iff_lt_mul (by omega)]; exact hj
    have hm : j % ags[t].ks.length < ags[t].ks.length := Nat.mod_lt _ (by omega)
    have e := step_at (List.getElem?_eq_getElem hi) hm
    rw [Nat.mul_comm, Nat.div_add_mod, h] at e
    obtain ⟨ih1, ih2⟩ := at_pf h1 t (by omega) _ _ (List.getElem?_eq_getElem hi)
    generalize (pfT ags t)[j / ags[t].ks.length] = r at *
    cases e
    refine ⟨⟨by rw [List.length_append, ih1.l]; rfl, fun i hi => ?_⟩, ?_⟩
    · rw [getD_app, ih1.l]
      split
      · exact ih1.k i (by assumption)
      · have : i = t := by omega
        subst this
        rw [if_pos rfl, hkc]
        exact hm
    · unfold numT
      rw [numT_congr (q := r) t fun i hi => by rw [getD_app, ih1.l, if_pos hi], ih2, hkc, getD_app, ih1.l, if_neg (by omega), if_pos rfl, Nat.mul_comm, Nat.div_add_mod]
abbrev numP (ags : List Ag) (p : List Nat) : Nat := numT ags p ags.length
theorem prof_ok {g : Gm} (hg : GmOk g) {j : Nat} (h : j < (profsL g.ags).length) : PfOk g.ags (profsL g.ags)[j] ∧ numP g.ags (profsL g.ags)[j] = j := by
  refine at_pf (fun a ha => (hg.ag a ha).k1) _ (Nat.le_refl _) j _ ?_
  rw [pfT_all]
  exact List.getElem?_eq_getElem h
def PNum (f : FD) : Prop := ∀ {g : Gm} {p : List Nat}, GmOk g → PfOk g.ags p → VP f [yGm g, yPf p] (.int (numP g.ags p : Nat))
theorem numT_le {g : Gm} (hg : GmOk g) {p : List Nat} (h : PfOk g.ags p) : ∀ t, t ≤ g.ags.length → numT g.ags p t < 4 ^ t
  | 0, _ => Nat.zero_lt_one
  | t + 1, ht => by
    have ih := numT_le hg h t (by omega)
    have hk := h.k t (by omega)
    have hc : kC g.ags t ≤ 4 := by rw [kC_at (by omega)]; exact (hg.ag _ (List.getElem_mem _)).k4
    unfold numT
    rw [Nat.pow_succ]
    have := Nat.mul_le_mul (show numT g.ags p t ≤ 4 ^ t - 1 by omega) hc
    have : 1 ≤ 4 ^ t := Nat.one_le_pow _ _ (by decide)
    omega
theorem pnum_ok {ix : FD} (h1 : IsIx ix) : PNum (P_profile_number ix) := fun {g p} hg hp => by
  have hszl : szl = 16777216 := rfl
  have a3 := hg.a3
  have hpl := hp.l
  refine vp_run ?_
  unfold yGm fsG
  walk_at "v0"
  walk_at "v"
  · refine vs_for (vi_enumT ?_)
    walk_at "v"
    refine ⟨_, rfl, ?_⟩
    refine for_enumI (enc := fun k : Nat => Y.int (k : Nat)) (fun t E o => o = [] ∧ ∃ a b c, E = [some (yGm g), some (yPf p), some (.int (numT g.ags p t : Nat)), a, b, c]) ⟨rfl, _, _, _, rfl⟩ (fun t ht E o ⟨eo, a, b, c, eE⟩ => ?_) (fun E o ⟨eo, a, b, c, eE⟩ => ?_)
    · subst eo; subst eE
      refine ⟨_, tg_t rfl, ?_⟩
      dsimp only [setY, List.set]
      have ht2 : t < g.ags.length := by omega
      have hn := numT_le hg hp t (by omega)
      have h64 : 4 ^ t ≤ 64 := p64 (by omega)
      have hk4 := (hg.ag _ (List.getElem_mem ht2)).k4
      have hk := hp.k t ht2
      rw [kC_at ht2, List.getD_eq_getElem?_getD, List.getElem?_eq_getElem ht] at hk
      have hk : p[t] < g.ags[t].ks.length := hk
      unfold yGm fsG
      walk_at "v"
      refine x_lst (.lst _) (atI_nat (k := t) (by rw [List.getElem?_map, List.getElem?_eq_getElem ht2]; rfl)) ?_
      unfold yAg
      walk_at "v"
      rw [List.length_map]
      refine vc_p (h1 hk) ?_
      have hc : cMul ((numT g.ags p t : Nat) : Int) ((g.ags[t].ks.length : Nat) : Int) := cMul_of (k := 8) (l := 8) (by omega) (by omega) (by decide)
      walk_at "v"
      have : (numT g.ags p (t + 1) : Nat) = numT g.ags p t * g.ags[t].ks.length + p[t] := by
        show numT g.ags p t * kC g.ags t + p.getD t 0 = _
        rw [kC_at ht2, List.getD_eq_getElem?_getD, List.getElem?_eq_getElem ht]
        rfl
      rw [this, Int.natCast_add, Int.natCast_mul]
      exact ⟨rfl, _, _, _, rfl⟩
    · subst eo; subst eE
      walk_at "v"
      rw [hpl]
  · rename_i h
    rw [List.length_map, List.length_map] at h
    exact absurd hpl (by omega)
def WithK (f : FD) : Prop := ∀ {p : List Nat} {a k : Nat}, a < p.length → p.length ≤ 1000 → VP f [yPf p, .int a, .int k] (yPf (p.set a k))
theorem set_cut (p : List Nat) (a k : Nat) (h : a < p.length) : cutY (p.map fun k => Y.int (k : Nat)) none (some (a : Int)) ++ [Y.int (k : Nat)] ++ cutY (p.map fun k => Y.int (k : Nat)) (some ((a : Int) + 1)) none = (p.set a k).map fun k => Y.int (k : Nat) := by
  rw [show ((a : Int) + 1) = ((a + 1 : Nat) : Int) by omega, cutY_to, cutY_from, List.set_eq_take_append_cons_drop, if_pos h]
  simp
theorem cut_len1 (p : List Nat) (a : Nat) : (cutY (p.map fun k => Y.int (k : Nat)) none (some (a : Int))).length ≤ p.length := by
  rw [cutY_to, List.length_take, List.length_map]; omega
theorem cut_len2 (p : List Nat) (a : Nat) : (cutY (p.map fun k => Y.int (k : Nat)) (some ((a : Int) + 1)) none).length ≤ p.length := by
  rw [show ((a : Int) + 1) = ((a + 1 : Nat) : Int) by omega, cutY_from, List.length_drop, List.length_map]; omega
theorem pwith_ok : WithK P_with_kind := fun {p a k} ha hp => by
  have hszl : szl = 16777216 := rfl
  have h1 := cut_len1 p a
  have h2 := cut_len2 p a
  refine vp_run ?_
  walk_at "v0"
  walk_at "v"
  refine b_addT0 ?_ ?_
  · show _ + 1 ≤ _; omega
  walk_at "v"
  refine b_addT0 ?_ ?_
  · rw [List.length_append]; show _ + 1 + _ ≤ _; omega
  rw [set_cut p a k ha]
  walk_at "v"
def LMulD (f : FD) : Prop := ∀ {a b : Rat} {k l : Nat}, Bd k a → Bd l b → k + l < 2400 → VP f [yR a, yR b] (yR (a * b))
theorem lmuld_ok {c : FD} (hc : LMake c) : LMulD (P__law_times_3 c) := fun {a b k l} ha hb h => by
  have := cm_nn ha hb (by omega); have := cm_dd ha hb (by omega)
  refine vp_run ?_
  walk_at "v0"
  walk_at "v"
  have hp : 0 < (a.den : Int) * (b.den : Int) := Int.mul_pos (by have := a.den_pos; omega) (by have := b.den_pos; omega)
  refine vc_p (hc _ _ (k + l) hp (by rw [Int.natAbs_mul]; exact pow_mul_lt ha.1 hb.1) (den_lt ha hb) (by omega)) ?_
  walk_at "v"
  rw [den_cast, divInt_nat, ← Rat.mul_def']
def kdAt (ags : List Ag) (a k : Nat) : Kd := (ags.getD a ⟨"", []⟩).ks.getD k ⟨"", 0, 0, []⟩
theorem kd_at {g : Gm} (hg : GmOk g) {a k : Nat} (ha : a < g.ags.length) (hk : k < kC g.ags a) : ∃ h : k < g.ags[a].ks.length, kdAt g.ags a k = g.ags[a].ks[k] ∧ KdOk g.outs.length (kdAt g.ags a k) := by
  rw [kC_at ha] at hk
  have e : kdAt g.ags a k = g.ags[a].ks[k] := by
    unfold kdAt
    rw [List.getD_eq_getElem?_getD, List.getD_eq_getElem?_getD, List.getElem?_eq_getElem ha, Option.getD_some, List.getElem?_eq_getElem hk]
    rfl
  exact ⟨hk, e, by rw [e]; exact (hg.ag _ (List.getElem_mem ha)).ks _ (List.getElem_mem hk)⟩
end
section
def IxB (f : FD) : Prop := ∀ {i c : Int}, VP f [.int i, .int c] (.bl (decide (0 ≤ i ∧ i < c)))
theorem ixb_ok {f : FD} (hg : IsI f) : IxB (P_is_index f) := fun {i c} => by
  refine vp_run ?_
  walk_at "v0"
  walk_at "v"
  refine vc_p hg ?_
  walk_at "v"
  · rename_i z1
    rw [decide_eq_decide.mpr (show i < c ↔ 0 ≤ i ∧ i < c from ⟨fun z => ⟨z1, z⟩, fun z => z.2⟩)]
  · rename_i z1
    rw [decide_eq_false fun z => z1 z.1]
def okIz (ags : List Ag) (zs : List Int) : Prop := zs.length = ags.length ∧ ∀ i, i < ags.length → 0 ≤ zs.getD i 0 ∧ zs.getD i 0 < kC ags i
def PNumB (f : FD) : Prop := ∀ {g : Gm} {zs : List Int}, GmOk g → ¬ okIz g.ags zs → VF f [yGm g, .tup (zs.map .int)] [] (fun _ _ => False) (fun x o => o = [] ∧ x = ⟨11, [(67, .tup (zs.map .int))]⟩)
theorem pnumb_ok {ix : FD} (h1 : IxB ix) : PNumB (P_profile_number ix) := fun {g zs} hg hp => by
  have hszl : szl = 16777216 := rfl
  have a3 := hg.a3
  refine vf_run ?_
  unfold yGm fsG
  walk_at "v0"
  walk_at "v"
  · rename_i hlen
    rw [List.length_map, List.length_map] at hlen
    refine vs_for (vi_enumT ?_)
    walk_at "v"
    refine ⟨_, rfl, ?_⟩
    refine for_enumI (enc := Y.int) (fun t E o => o = [] ∧ (∀ i, i < t → 0 ≤ zs.getD i 0 ∧ zs.getD i 0 < kC g.ags i) ∧ ∃ (v : Nat) (a b c : Option Y), v < 4 ^ t ∧ E = [some (yGm g), some (.tup (zs.map .int)), some (.int (v : Nat)), a, b, c]) ⟨rfl, fun _ h => absurd h (Nat.not_lt_zero _), 0, _, _, _, by decide, rfl⟩ (fun t ht E o ⟨eo, hz, v, a, b, c, hv, eE⟩ => ?_) (fun E o ⟨eo, hz, v, a, b, c, hv, eE⟩ => ?_)
    · subst eo; subst eE
      refine ⟨_, tg_t rfl, ?_⟩
      dsimp only [setY, List.set]
      have ht2 : t < g.ags.length := by omega
      have h64 : 4 ^ t ≤ 64 := p64 (by omega)
      have hk4 := (hg.ag _ (List.getElem_mem ht2)).k4
      have ekc := kC_at ht2
      have ez : zs.getD t 0 = zs[t] := by rw [List.getD_eq_getElem?_getD, List.getElem?_eq_getElem ht]; rfl
      unfold yGm fsG
      walk_at "v"
      refine x_lst (.lst _) (atI_nat (k := t) (by rw [List.getElem?_map, List.getElem?_eq_getElem ht2]; rfl)) ?_
      unfold yAg
      walk_at "v"
      rw [List.length_map]
      refine vc_p h1 ?_
      by_cases hc : 0 ≤ zs[t] ∧ zs[t] < (g.ags[t].ks.length : Nat)
      · rw [decide_eq_true hc]
        walk_at "v"
        refine b_mul (cMul_of (k := 8) (l := 8) (by omega) (by omega) (by decide)) ?_
        walk_at "v"
        obtain ⟨z, ezz⟩ : ∃ z : Nat, zs[t] = z := ⟨zs[t].toNat, by omega⟩
        rw [show (v : Int) * (g.ags[t].ks.length : Nat) + zs[t] = ((v * g.ags[t].ks.length + z : Nat) : Int) by rw [Int.natCast_add, Int.natCast_mul, ← ezz]]
        refine ⟨rfl, fun i hi => ?_, v * g.ags[t].ks.length + z, _, _, _, ?_, rfl⟩
        · by_cases e : i = t
          · subst e
            rw [ez, ekc]; exact hc
          · exact hz i (by omega)
        · rw [Nat.pow_succ]
          have := Nat.mul_le_mul (show v ≤ 4 ^ t - 1 by omega) hk4
          have : 1 ≤ 4 ^ t := Nat.one_le_pow _ _ (by decide)
          omega
      · rw [decide_eq_false hc]
        walk_at "v"
        exact ⟨rfl, retx (.refl _) ⟨rfl, rfl⟩⟩
    · subst eo
      refine absurd ⟨by omega, fun i hi => hz i (by omega)⟩ hp
  · exact ⟨rfl, retx (.refl _) ⟨rfl, rfl⟩⟩
end
section
theorem law_of {f : FD} {ns : List Int} (p : VF f [.frz (ns.map .int)] [] (fun y _ => y = .bl true) noq) : ∃ h, f [.ref 0] [.frz (ns.map .int)] = .ok (.bl true) h := by
  have s : Sat (fun n => if n = 0 then some (.frz (ns.map .int)) else none) [] [O.frz (ns.map .int)] := ⟨fun n x e => by
      by_cases z : n = 0
      · subst z; simp only [if_pos] at e; cases e; rfl
      · simp only [if_neg z] at e; exact absurd e (by simp), fun p hp => (by cases hp), List.nodup_nil⟩
  have q := p _ [.ref 0] _ (.cons (.frz (n := 0) (if_pos rfl) (RYs.ints ns)) .nil) s
  cases z : f [.ref 0] [.frz (ns.map .int)] with
  | stuck => rw [z] at q; exact q.elim
  | exc x h => rw [z] at q; obtain ⟨_, _, _, _, _, _, w⟩ := q; exact w.elim
  | ok d h =>
    rw [z] at q
    obtain ⟨_, _, _, _, _, r, e⟩ := q
    subst e
    cases r
    exact ⟨h, rfl⟩
theorem bits_of {z : Int} (h : Builtin.Int.intBits z ≤ 1048576) : z.natAbs < 2 ^ 1048577 := by
  unfold Builtin.Int.intBits at h
  by_cases z0 : z.natAbs = 0
  · rw [z0]; exact Nat.two_pow_pos _
  · refine (Nat.log2_lt z0).mp ?_
    split at h
    · rename_i q; simp_all
    · omega
end
section
noncomputable def P_profile_weight (c_multiply : FD) (c_profile_number : FD) : FD := fnRun (sSq (sEx (dCall c_profile_number (aC (dV 0) (aC (dV 1) aN)) []))
    (sSq (sAs (dC (.tup [(.int 1), (.int 1)])) (ofG (gN 2)))
    (sSq (sFor (iEnum (dV 1)) (gT [3, 4]) (sAs (dCall c_multiply (aC (dV 2) (aC (dIx (dIx (dIx (dIx (dFld 13 (dV 0)) (dV 3)) (dC (.int 1))) (dV 4)) (dC (.int 1))) aN)) []) (ofG (gN 2))))
    (sRt (dV 2))))) 5
noncomputable def P__law_refused_15 (t_sub : Nat → Nat → Option Bool) (t_isi : Nat → Nat → Option Bool) (t_xa : Nat → List Nat) (c_profile_number : FD) (c_profile_weight : FD) (h__law_same : FD) : FD := fnRun (sSq (sAs (dLst aN) (ofG (gN 2)))
    (sSq (sTry t_sub (sEx (dCall c_profile_number (aC (dV 0) (aC (dV 1) aN)) [])) ⟨11, (some 3), fun y => sEx (dM chkL mAppend (dV 2) (aC (dAndT (dCall h__law_same (aC (dXf t_xa y 67) (aC (dV 1) aN)) []) (dNotT (isX t_isi y 2))) aN))⟩)
    (sSq (sTry t_sub (sEx (dCall c_profile_weight (aC (dV 0) (aC (dV 1) aN)) [])) ⟨11, (some 3), fun y => sEx (dM chkL mAppend (dV 2) (aC (dAndT (dCall h__law_same (aC (dXf t_xa y 67) (aC (dV 1) aN)) []) (isX t_isi y 100)) aN))⟩)
    (sRt (dCmp .Eq (dV 2) (dLst (aC (dC (.bl true)) (aC (dC (.bl true)) aN)))))))) 4
noncomputable def P_law_33 (c__law_draws : FD) (c__law_game : FD) (c__law_made : FD) (c__law_profiles : FD) (c__law_refused : FD) (c__law_same : FD) (c__law_take : FD) (c__law_times : FD) (c_profile_number : FD) (c_profile_weight : FD) (c_profiles : FD) (c_with_kind : FD) : FD := fnRun (sSq (sAs (dCall c__law_draws (aC (dV 0) aN) []) (ofG (gN 1)))
    (sSq (sAs (dCall c__law_game (aC (dV 1) (aC (dC (.int 3)) (aC (dC (.int 3)) aN))) []) (ofG (gN 2)))
    (sSq (sAs (dCall c__law_profiles (aC (dIx (dV 2) (dC (.int 0))) aN) []) (ofG (gN 3)))
    (sSq (sIf (tB (dCmp .Gt (dCall fLen (aC (dV 3) aN) []) (dC (.int 16)))) (sSq (sAs (dSl (dIx (dV 2) (dC (.int 0))) oN (oS (dC (.int 2)))) (gIx (dV 2) (dC (.int 0))))
    (sSq (sAs (dLst aN) (gIx (dV 2) (dC (.int 5))))
    (sAs (dCall c__law_profiles (aC (dIx (dV 2) (dC (.int 0))) aN) []) (ofG (gN 3))))) sNx)
    (sSq (sAs (dCall c__law_made (aC (dV 2) aN) []) (ofG (gN 4)))
    (sSq (sAs (dCall c_profiles (aC (dV 4) aN) []) (ofG (gN 5)))
    (sSq (sIf (tNot (tE (dCall c__law_same (aC (dV 5) (aC (dV 3) aN)) []))) (sRt (dC (.bl false))) sNx)
    (sSq (sEx (dM chkL mAppend (dV 5) (aC (dTup aN) aN)))
    (sSq (sIf (tNot (tE (dCall c__law_same (aC (dCall c_profiles (aC (dV 4) aN) []) (aC (dV 3) aN)) []))) (sRt (dC (.bl false))) sNx)
    (sSq (sAs (dCall c__law_take (aC (dV 1) (aC (dCall fLen (aC (dIx (dV 2) (dC (.int 0))) aN) []) aN)) []) (ofG (gN 6)))
    (sSq (sFor (iRange1 (dCall fLen (aC (dV 3) aN) [])) (gN 7) (sSq (sIf (tNot (tE (dCall c__law_same (aC (dCall c_profile_number (aC (dV 4) (aC (dIx (dV 3) (dV 7)) aN)) []) (aC (dV 7) aN)) []))) (sRt (dC (.bl false))) sNx)
    (sSq (sAs (dTup (aC (dC (.int 1)) (aC (dC (.int 1)) aN))) (ofG (gN 8)))
    (sSq (sFor (iRange1 (dCall fLen (aC (dIx (dV 2) (dC (.int 0))) aN) [])) (gN 9) (sAs (dCall c__law_times (aC (dV 8) (aC (dIx (dIx (dIx (dIx (dIx (dV 2) (dC (.int 0))) (dV 9)) (dC (.int 1))) (dIx (dIx (dV 3) (dV 7)) (dV 9))) (dC (.int 1))) aN)) []) (ofG (gN 8))))
    (sSq (sIf (tNot (tE (dCall c__law_same (aC (dCall c_profile_weight (aC (dV 4) (aC (dIx (dV 3) (dV 7)) aN)) []) (aC (dV 8) aN)) []))) (sRt (dC (.bl false))) sNx)
    (sFor (iRange1 (dCall fLen (aC (dIx (dIx (dIx (dV 2) (dC (.int 0))) (dV 6)) (dC (.int 1))) aN) [])) (gN 10) (sSq (sAs (dCall fTuple (aC (dLc (iRange1 (dCall fLen (aC (dIx (dV 2) (dC (.int 0))) aN) [])) (gN 9) tY (dIx (dLst (aC (dIx (dIx (dV 3) (dV 7)) (dV 9)) (aC (dV 10) aN))) (dCall fInt (aC (dCmp .Eq (dV 9) (dV 6)) aN) [])) [9]) aN) []) (ofG (gN 11)))
    (sIf (tNot (tE (dCall c__law_same (aC (dCall c_with_kind (aC (dIx (dV 3) (dV 7)) (aC (dV 6) (aC (dV 10) aN))) []) (aC (dV 11) aN)) []))) (sRt (dC (.bl false))) sNx))))))))
    (sSq (sAs (dIx (dV 3) (dCall c__law_take (aC (dV 1) (aC (dCall fLen (aC (dV 3) aN) []) aN)) [])) (ofG (gN 12)))
    (sSq (sAs (dSl (dV 12) (oS (dB .Add (dV 6) (dC (.int 1)))) oN) (ofG (gN 13)))
    (sSq (sAs (dLst (aC (dB .Add (dV 12) (dTup (aC (dC (.int 0)) aN))) (aC (dSl (dV 12) (oS (dC (.int 1))) oN) (aC (dB .Add (dB .Add (dSl (dV 12) oN (oS (dV 6))) (dTup (aC (dCall fLen (aC (dIx (dIx (dIx (dV 2) (dC (.int 0))) (dV 6)) (dC (.int 1))) aN) []) aN))) (dV 13)) aN)))) (ofG (gN 14)))
    (sSq (sEx (dM chkL mAppend (dV 14) (aC (dB .Add (dB .Add (dSl (dV 12) oN (oS (dV 6))) (dTup (aC (dU .USub (dC (.int 1))) aN))) (dV 13)) aN)))
    (sSq (sFor (iSeq (dV 14)) (gN 15) (sIf (tNot (tE (dCall c__law_refused (aC (dV 4) (aC (dV 15) aN)) []))) (sRt (dC (.bl false))) sNx))
    (sRt (dC (.bl true))))))))))))))))))) 16
section
open Classical
variable {E : Ey} {o : OC} {Q : Y → OC → Prop} {X : XQ}
theorem vE_Lc2O {α : Type} {it : ID} {tg tg1 : Tg} {a el : ED} {vs vs1 : List Nat} (enc : α → Y) (cnt : α → Nat) (g : α → Nat → Y)
    (p : VI it E o (fun ys ns o1 => ∃ xs : List α, ns = [] ∧ ys = xs.map enc ∧ Lc2G tg tg1 a el vs1 (wipeY E vs) enc xs cnt g o1 ∧ NL true (xs.flatMap fun x => (List.range (cnt x)).map (g x)) o1 Q) X) :
    VE (dLc2 it tg tY (iRange1 a) tg1 tY el vs vs1) E o Q X := fun v e h re s => by
  have p := p v e h re s
  unfold dLc2
  cases q : it e h with
  | stuck => rw [q] at p; exact p.elim
  | exc x h1 => rw [q] at p; exact p
  | ok sq h1 =>
    rw [q] at p
    obtain ⟨v1, o1, ys, ns, f1, s1, rs, so, xs, ens, eys, ⟨hl, st⟩, pq⟩ := p
    subst ens; subst eys
    refine PR.base f1 ?_
    obtain ⟨n1, n2⟩ := s1.new (x := .lst [])
    have s2 : Sat v1 o1 (h1 ++ [.lst []]) := ⟨fun n y e => app_old (s1.vw _ _ e), fun p hp => by
      obtain ⟨y, e1, e2, e3⟩ := s1.oc p hp
      exact ⟨y, app_old e1, e2, e3⟩, s1.nd⟩
    have f2 : Fr v1 o1 h1 v1 o1 (h1 ++ [.lst []]) := ⟨fun _ _ e => e, fun n x e hn => ⟨app_old e, rfl, hn⟩⟩
    have so' : ∀ v h, Fr v1 o1 h1 v o1 h → Sat v o1 h → srcOk sq.src h := fun v h f s p hp => by
      rcases so p hp with (q | q) | ⟨q1, q2⟩
      · unfold lstAt; rw [s.vw _ _ (f.mono _ _ q)]
      · unfold lstAt; rw [s.vw _ _ (f.mono _ _ q)]
      · cases q1
    obtain ⟨v3, h3, e3, r3⟩ := raw_out (by simp) so' (xs := xs) ⟨f2, s2, n1, n2, [], app_new, .nil⟩ ((re.mono f1.mono).wipe vs) rs (by simpa using hl) st
    show PR RY v1 o1 h1 (lc2Go sq.src tg tY (iRange1 a) tg1 tY el (wipe e vs) vs1 h1.length sq.items (h1 ++ [.lst []])) Q X
    rw [e3]
    rw [List.nil_append] at r3
    obtain ⟨das, hp1, hp2⟩ := r3.q
    refine ⟨v3, (h1.length, .lst (xs.flatMap fun x => (List.range (cnt x)).map (g x))) :: o1, .own h1.length, ⟨r3.f.mono, fun n x e hn => ?_⟩, ⟨r3.s.vw, fun p hp => ?_, ?_⟩, .own, pq _ r3.op⟩
    · obtain ⟨k1, k2, k3⟩ := r3.f.keep n x e hn
      refine ⟨k1, k2, fun z => ?_⟩
      rcases List.mem_cons.mp z with z | z
      · rw [z] at e; simp at e
      · exact k3 z
    · rcases List.mem_cons.mp hp with z | z
      · subst z
        exact ⟨_, hp1, r3.vp, RC.lst hp2⟩
      · exact r3.s.oc p z
    · exact List.nodup_cons.mpr ⟨r3.op, r3.s.nd⟩
end
def dtL (g : Gm) : List Y := [.lst (g.ags.map yAg), gSs g.outs, .str g.aim, .bl g.pay, .bl g.lots, .lst (g.nds.map yNd)]
def LGameO (f : FD) : Prop := ∀ (n : Nat) (xs : List Int) (ma mk : Nat), 1 ≤ ma → ma ≤ 3 → 1 ≤ mk → mk ≤ 3 → VF f [.own n, .int ma, .int mk] [(n, WI xs)] (fun y o => ∃ (g : Gm) (xs' : List Int) (q : Nat), y = .own q ∧ GmOk g ∧ g.ags.length ≤ ma ∧ (∀ a ∈ g.ags, a.ks.length ≤ mk) ∧ o = [(q, .lst (dtL g)), (n, WI xs')]) noq
theorem lgameO_ok {kd nm nd t : FD} (hk : LKinds kd) (hn : LNames nm) (hd : LNeeds nd) (ht : Take t) : LGameO (P__law_game kd nm nd t) := fun n xs ma mk a1 a3 k1 k3 => by
  have hszl : szl = 16777216 := rfl
  refine vf_run ?_
  walk_at "v0"
  walk_at "vl"
  refine take_call ht .here (by decide) (fun r xs1 r0 r1 => ?_)
  walk_at "vl"
  have er : 1 + r = ((1 + r.toNat : Nat) : Int) := by omega
  rw [er]
  refine names_call hn .here (by omega) (fun outs xs2 hol hos hon => ?_)
  walk_at "vl"
  refine vE_Lst true ?_
  walk_at "v"
  rename_i q hq
  refine vs_for (vi_seq ?_)
  walk_at "v"
  refine take_call ht (.there .here) (by omega) (fun s xs3 s0 s1 => ?_)
  walk_at "v"
  have es : 1 + s = ((1 + s.toNat : Nat) : Int) := by omega
  rw [es]
  refine names_call hn (.there .here) (by omega) (fun ws xs4 hwl hws hnd => ?_)
  refine ⟨_, _, .lst _, ?_⟩
  refine for_mapI (fun t E o => ∃ (ags : List Ag) (ys : List Int) (a : Option Y), o = [(q, .lst (ags.map yAg)), (n, WI ys)] ∧ ags.map Ag.nm = ws.take t ∧ (∀ g ∈ ags, AgOk outs.length g ∧ g.ks.length ≤ mk) ∧ E = [some (.own n), some (.int ma), some (.int mk), some (gSs outs), some (.own q), a, none, none]) ⟨[], xs4, _, rfl, rfl, fun _ h => (by cases h), rfl⟩ (fun t ht' E o ⟨ags, ys, a, eo, hnm, hag, eE⟩ => ?_) (fun E o ⟨ags, ys, a, eo, hnm, hag, eE⟩ => ?_)
  · subst eo; subst eE
    have hkl : ags.length = t := by
      have := congrArg List.length hnm
      rw [List.length_map, List.length_take] at this
      omega
    refine ⟨_, tg_n, ?_⟩
    walk_at "set"
    walk_at "v"
    refine ⟨chk_L (.own .here), ?_⟩
    walk_at "v"
    rw [List.length_map]
    refine kinds_call hk (.there .here) k1 k3 (by omega) (fun ks xs5 c1 c2 c3 c4 => ?_)
    walk_at "v"
    refine m_append' .here (by rw [List.length_map]; omega) ?_
    walk_at "v"
    refine ⟨ags ++ [⟨ws[t], ks⟩], xs5, _, by rw [List.map_append]; rfl, ?_, fun g hg => ?_, rfl⟩
    · rw [List.map_append, hnm, List.take_succ_eq_append_getElem ht']
      rfl
    · rcases List.mem_append.mp hg with hg | hg
      · exact hag g hg
      · rw [List.mem_singleton.mp hg]
        exact ⟨⟨hws _ (List.getElem_mem ht'), c1, by show ks.length ≤ 4; omega, c3, c4⟩, c2⟩
  · subst eo; subst eE
    rw [List.take_length] at hnm
    have hal : ags.length = ws.length := by rw [← hnm, List.length_map]
    refine vs_freeze (n := q) .here (by walk_at "fz") ?_
    walk_at "v"
    refine take_call ht .here (by decide) (fun m xs5 m0 m1 => ?_)
    obtain ⟨aim, ha, ea⟩ := aim_at m0 m1
    refine x_lst (.lst _) ea ?_
    walk_at "v"
    refine take_call ht .here (by decide) (fun f1 xs6 f10 f11 => ?_)
    walk_at "v"
    refine take_call ht .here (by decide) (fun f2 xs7 f20 f21 => ?_)
    walk_at "vl"
    refine vE_Lst true ?_
    walk_at "v"
    rw [List.length_map, List.length_map]
    refine needs_call hd .here (by omega) (by omega) (by omega) (by omega) (fun nds xs8 n1 n2 n3 => ?_)
    walk_at "v"
    rename_i q2 hq2
    exact ret_v (List.Sublist.refl _) ⟨⟨ags, outs, aim, decide (f1 = 1), decide (f2 = 1), nds⟩, xs8, q2, rfl,
      ⟨by show 1 ≤ ags.length; omega, by show ags.length ≤ 3; omega, by show (ags.map Ag.nm).Nodup; rw [hnm]; exact hnd, fun a h => (hag a h).1, by show 1 ≤ outs.length; omega, by show outs.length ≤ 4; omega, hon, hos, ha, n1, n2, n3⟩, by show ags.length ≤ ma; omega, fun a h => (hag a h).2, rfl⟩
def ProfsO (f : FD) : Prop := ∀ {g : Gm}, GmOk g → VF f [yGm g] [] (fun y o => ∃ q, y = .own q ∧ o = [(q, .lst ((profsL g.ags).map yPf))]) noq
theorem profsO_ok : ProfsO P_profiles := fun {g} h => by
  have hszl : szl = 16777216 := rfl
  have a3 := h.a3
  refine vf_run ?_
  unfold yGm fsG
  walk_at "v0"
  walk_at "vl"
  refine vE_Lst true ?_
  walk_at "v"
  rename_i q hq
  refine vs_for (vi_seq ?_)
  walk_at "v"
  refine ⟨_, _, .lst _, ?_⟩
  refine for_mapI (fun t E o => ∃ q a b, o = [(q, .lst (((g.ags.take t).foldl stepP [[]]).map yPf))] ∧ E = [some (yGm g), some (.own q), a, b, none, none]) ⟨q, _, _, rfl, rfl⟩ (fun t ht' E o ⟨q, a, b, eo, eE⟩ => ?_) (fun E o ⟨q, a, b, eo, eE⟩ => ?_)
  · subst eo; subst eE
    have hb := profs_bd h t (by omega)
    have h64 := p64 (show t ≤ 3 by omega)
    have hk4 := (h.ag _ (List.getElem_mem ht')).k4
    rw [List.take_succ_eq_append_getElem ht', List.foldl_append]
    have hrl := profs_mem g.ags t (by omega)
    generalize (g.ags.take t).foldl stepP [[]] = rows at *
    generalize g.ags[t] = ag at *
    refine ⟨_, tg_t rfl, ?_⟩
    dsimp only [setY, List.set]
    refine vs_freeze (n := q) .here (by walk_at "fz") ?_
    walk_at "v"
    refine vE_Lc2O (α := List Nat) yPf (fun _ => ag.ks.length) (fun r k => .tup (r.map (fun k => Y.int (k : Nat)) ++ [.int (k : Nat)])) (vi_seq ?_)
    walk_at "v"
    refine ⟨_, _, .lst _, rows, rfl, rfl, ⟨?_, fun r hr => ⟨by show ag.ks.length < 16777216; omega, _, tg_n, ?_, fun k hk => ⟨_, tg_n, ?_⟩⟩⟩, ?_⟩
    · rw [map_flat, List.length_map]
      have := step_len rows ag
      unfold stepP at this
      rw [this]
      have : rows.length * ag.ks.length ≤ 64 * 4 := Nat.mul_le_mul (by omega) hk4
      omega
    · dsimp only [wipeY, List.set]
      walk_at "v"
      exact ⟨by rw [List.length_map], rfl⟩
    · dsimp only [wipeY, List.set]
      walk_at "v"
      refine b_addT0 (by
        have := hrl r hr
        rw [List.length_map]
        show r.length + 1 ≤ szl
        omega) ?_
      exact ⟨rfl, rfl⟩
    · rw [map_flat]
      walk_at "v"
      rename_i q2 hq2
      exact ⟨q2, _, _, rfl, rfl⟩
  · subst eo; subst eE
    rw [List.take_length]
    walk_at "v"
    exact ret_v (List.Sublist.refl _) ⟨q, rfl, rfl⟩
theorem vc_look {f : FD} {n : Nat} {zs bs : List Y} {b : Bool} {o o1 : OC} {Q : Y → OC → Prop} {X : XQ} (a : Rm o n (.lst zs) o1) (p : VP f (.lst zs :: bs) (.bl b)) (q : Q (.bl b) o) : VF f (.own n :: bs) o Q X := fun v ds h r s => by
  cases r with
  | cons r1 r2 =>
    cases r1
    obtain ⟨v', f', s', ry⟩ := s.freeze a
    have p := p v' _ h (.cons ry (r2.mono f'.mono)) (s'.less (List.nil_sublist _))
    rename_i ds
    cases z : f (.ref n :: ds) h with
    | stuck => rw [z] at p; exact p.elim
    | exc x h' => rw [z] at p; obtain ⟨_, _, _, _, _, _, w⟩ := p; exact w.elim
    | ok d h' =>
      rw [z] at p
      obtain ⟨v2, o2, y, f2, s2, r3, e1, e2⟩ := p
      subst e1; subst e2
      cases r3
      have kp : ∀ m x, h[m]? = some x → h'[m]? = some x := fun m x e => (f2.keep m x e List.not_mem_nil).1
      exact ⟨v, o, .bl b, ⟨fun _ _ e => e, fun m x e hm => ⟨kp m x e, rfl, hm⟩⟩, ⟨fun m y e => kp m _ (s.vw m y e), fun c hc => let ⟨y, e1, e2, e3⟩ := s.oc c hc; ⟨y, kp _ _ e1, e2, e3⟩, s.nd⟩, .bl _, q⟩
def wtT (g : Gm) (p : List Nat) (t : Nat) : Rat := ((List.range t).map fun a => (kdAt g.ags a (p.getD a 0)).w).foldl (· * ·) 1
abbrev wtR (g : Gm) (p : List Nat) : Rat := wtT g p g.ags.length
theorem wtT_succ (g : Gm) (p : List Nat) (t : Nat) : wtT g p (t + 1) = wtT g p t * (kdAt g.ags t (p.getD t 0)).w := by
  unfold wtT
  rw [List.range_succ, List.map_append, List.foldl_append]
  rfl
theorem wt_bd {g : Gm} (hg : GmOk g) {p : List Nat} (hp : PfOk g.ags p) : ∀ t, t ≤ g.ags.length → Bd (1 + 30 * t) (wtT g p t)
  | 0, _ => Bd.one
  | t + 1, h => by
    rw [wtT_succ]
    have h1 := wt_bd hg hp t (by omega)
    obtain ⟨_, _, h2⟩ := kd_at hg (a := t) (by omega) (hp.k t (by omega))
    exact (h1.mul h2.w).mono (by omega)
def PProfW (f : FD) : Prop := ∀ {g : Gm} {p : List Nat}, GmOk g → PfOk g.ags p → VP f [yGm g, yPf p] (yR (wtR g p))
theorem pprofw_ok {mu nu : FD} (h1 : Mul mu) (h2 : PNum nu) : PProfW (P_profile_weight mu nu) := fun {g p} hg hp => by
  have hszl : szl = 16777216 := rfl
  have a3 := hg.a3
  have hpl := hp.l
  refine vp_run ?_
  walk_at "v0"
  walk_at "v"
  refine vc_p (h2 hg hp) ?_
  walk_at "v"
  refine vs_for (vi_enumT ?_)
  walk_at "v"
  refine ⟨_, rfl, ?_⟩
  refine for_enumI (enc := fun k : Nat => Y.int (k : Nat)) (fun t E o => o = [] ∧ ∃ a b, E = [some (yGm g), some (yPf p), some (yR (wtT g p t)), a, b]) ⟨rfl, _, _, rfl⟩ (fun t ht E o ⟨eo, a, b, eE⟩ => ?_) (fun E o ⟨eo, a, b, eE⟩ => ?_)
  · subst eo; subst eE
    have ht2 : t < g.ags.length := by omega
    have hpt : p[t] = p.getD t 0 := by rw [List.getD_eq_getElem?_getD, List.getElem?_eq_getElem ht]; rfl
    obtain ⟨hk2, e2, n2⟩ := kd_at hg ht2 (hp.k t ht2)
    refine ⟨_, tg_t rfl, ?_⟩
    dsimp only [setY, List.set]
    rw [hpt]
    rw [show yGm g = .ins 43 (fsG g) from rfl]
    unfold fsG
    walk_at "v"
    refine x_lst (.lst _) (atI_nat (k := t) (y := yAg g.ags[t]) (by rw [List.getElem?_map, List.getElem?_eq_getElem ht2]; rfl)) ?_
    rw [show yAg g.ags[t] = .tup [.str g.ags[t].nm, .lst (g.ags[t].ks.map yKd)] from rfl]
    walk_at "v"
    refine x_lst (.lst _) (atI_nat (k := p.getD t 0) (y := yKd (kdAt g.ags t (p.getD t 0))) (by rw [List.getElem?_map, List.getElem?_eq_getElem hk2, e2]; rfl)) ?_
    rw [show yKd (kdAt g.ags t (p.getD t 0)) = .tup [.str (kdAt g.ags t (p.getD t 0)).nm, yR (kdAt g.ags t (p.getD t 0)).w, yR (kdAt g.ags t (p.getD t 0)).al, gRs (kdAt g.ags t (p.getD t 0)).ws] from rfl]
    walk_at "v"
    refine vc_p (h1 (wt_bd hg hp t (by omega)) n2.w (by omega)) ?_
    walk_at "v"
    exact ⟨rfl, _, _, by rw [wtT_succ]⟩
  · subst eo; subst eE
    walk_at "v"
    rw [hpl]
def PProfWB (f : FD) : Prop := ∀ {g : Gm} {zs : List Int}, GmOk g → ¬ okIz g.ags zs → VF f [yGm g, .tup (zs.map .int)] [] (fun _ _ => False) (fun x o => o = [] ∧ x = ⟨11, [(67, .tup (zs.map .int))]⟩)
theorem pprofwb_ok {mu nu : FD} (h2 : PNumB nu) : PProfWB (P_profile_weight mu nu) := fun {g zs} hg hp => by
  refine vf_run ?_
  walk_at "v0"
  walk_at "v"
  refine vc_fr (h2 hg hp) (fun y o z => z.elim) (fun x o ⟨e1, e⟩ => ?_)
  subst e1; subst e
  exact retx (.refl _) ⟨rfl, rfl⟩
theorem dOfs_ints : ∀ zs : List Int, dOfs (zs.map Y.int) = some (zs.map D.int)
  | [] => rfl
  | z :: zs => by
    show (match dOf (.int z), dOfs (zs.map Y.int) with | some d, some ds => some (d :: ds) | _, _ => none) = _
    rw [dOfs_ints zs]
    rfl
theorem dOf_ints (zs : List Int) : dOfF [(67, .tup (zs.map Y.int))] = some [(67, .tup (zs.map D.int))] := by
  have e : dOf (.tup (zs.map Y.int)) = some (.tup (zs.map D.int)) := by
    show (dOfs (zs.map Y.int)).map D.tup = _
    rw [dOfs_ints zs]
    rfl
  show (match dOf (.tup (zs.map Y.int)), dOfF [] with | some d, some ds => some ((67, d) :: ds) | _, _ => none) = _
  rw [e]
  rfl
def LRf19 (ts ti : Nat → Nat → Option Bool) (xa : Nat → List Nat) (f : FD) : Prop := ts 11 11 = some true → ti 11 2 = some false → ti 11 100 = some true → (xa 11).elem 67 = true → ∀ {g : Gm} {zs : List Int}, GmOk g → ¬ okIz g.ags zs → zs.length ≤ 100 → VP f [yGm g, .tup (zs.map .int)] (.bl true)
theorem lrf19_ok {ts ti : Nat → Nat → Option Bool} {xa : Nat → List Nat} {nu wt sm : FD} (h1 : PNumB nu) (h2 : PProfWB wt) (h3 : SameZ 1 sm) : LRf19 ts ti xa (P__law_refused_15 ts ti xa nu wt sm) := fun s1 t1 t2 x1 {g zs} hg hp hl => by
  have hsm : smZ 1 (.tup (zs.map .int)) = true := by
    simp only [smZ, Bool.and_eq_true, decide_eq_true_eq, List.length_map]
    refine ⟨by omega, ?_⟩
    rw [List.all_map, List.all_eq_true]
    exact fun _ _ => rfl
  refine vp_run ?_
  walk_at "v0"
  walk_at "vl"
  refine vE_Lst true ?_
  refine vA_N ?_
  refine ⟨by decide, NL.ow fun q1 hq1 => ?_⟩
  walk_at "v"
  refine vc_fr (h1 hg hp) (fun y o z => z.elim) (fun x o ⟨e1, e⟩ => ?_)
  subst e1; subst e
  refine tw_inF s1 rfl (dOf_ints zs) ?_
  dsimp only
  walk_at "v"
  refine ⟨chk_L (.own .here), ?_⟩
  walk_at "v"
  refine vE_Xf (dOf_ints zs) x1 rfl ?_
  dsimp only [List.set, List.nil_append]
  walk_at "v"
  refine vc_p (h3 _ hsm) ?_
  walk_at "v"
  refine vE_isX t1 ?_
  walk_at "v"
  refine m_append' .here (by decide) ?_
  walk_at "v"
  refine vc_fr (h2 hg hp) (fun y o z => z.elim) (fun x o ⟨e1, e⟩ => ?_)
  subst e1; subst e
  refine tw_inF s1 rfl (dOf_ints zs) ?_
  dsimp only
  walk_at "v"
  refine ⟨chk_L (.own .here), ?_⟩
  walk_at "v"
  refine vE_Xf (dOf_ints zs) x1 rfl ?_
  dsimp only [List.set, List.nil_append]
  walk_at "v"
  refine vc_p (h3 _ hsm) ?_
  walk_at "v"
  refine vE_isX t2 ?_
  walk_at "v"
  refine m_append' .here (by decide) ?_
  refine sq_nx ?_
  walk_at "set"
  refine vs_freeze (n := q1) .here (by walk_at "fz") ?_
  walk_at "v"
  refine c_eq rfl rfl ?_
  walk_at "v"
  rfl
theorem smZ_pf (k : Nat) {p : List Nat} (h : p.length < 1000000) : smZ (k + 1) (yPf p) = true := by
  simp only [smZ, Bool.and_eq_true, decide_eq_true_eq, List.length_map]
  refine ⟨h, ?_⟩
  rw [List.all_map, List.all_eq_true]
  intro x _
  cases k <;> rfl
theorem smZ_pfs {xs : List (List Nat)} (h : xs.length < 1000000) (hp : ∀ p ∈ xs, p.length < 1000000) : smZ 2 (.lst (xs.map yPf)) = true := by
  show (decide ((xs.map yPf).length < 1000000) && (xs.map yPf).all (smZ 1)) = true
  rw [Bool.and_eq_true, decide_eq_true_eq, List.length_map]
  refine ⟨h, ?_⟩
  rw [List.all_map, List.all_eq_true]
  exact fun p hm => smZ_pf 0 (hp p hm)
theorem map_rng {xs : List Nat} {m : Nat} (h : xs.length = m) : (List.range m).map (fun i => Y.int (xs.getD i 0 : Nat)) = xs.map fun k => .int (k : Nat) := by
  subst h
  refine List.ext_getElem (by simp) fun i h1 h2 => ?_
  rw [List.getElem_map, List.getElem_map, List.getElem_range, List.getD_eq_getElem?_getD, List.getElem?_eq_getElem (by simpa using h2)]
  rfl
theorem mid_at {z r : List Int} {a : Nat} {x : Int} (h : a ≤ z.length) : (z.take a ++ [x] ++ r).getD a 0 = x := by
  rw [List.append_assoc, List.getD_eq_getElem?_getD, List.getElem?_append_right (by rw [List.length_take]; omega), List.length_take, Nat.min_eq_left h, Nat.sub_self]
  rfl
theorem law19_ok {c__law_draws c__law_game c__law_made c__law_profiles c__law_refused c__law_same c__law_take c__law_times c_profile_number c_profile_weight c_profiles c_with_kind : FD} {ts ti : Nat → Nat → Option Bool} {xa : Nat → List Nat} (h1 : Draws c__law_draws) (h2 : LGameO c__law_game) (h3 : LMadeG c__law_made) (h4 : LProfsA c__law_profiles)
    (h5 : LRf19 ts ti xa c__law_refused) (h6 : SameZ 2 c__law_same) (h7 : Take c__law_take) (h8 : LMulD c__law_times) (h9 : PNum c_profile_number) (h10 : PProfW c_profile_weight) (h11 : Profs c_profiles) (h12 : ProfsO c_profiles) (h13 : WithK c_with_kind) (s1 : ts 11 11 = some true) (t1 : ti 11 2 = some false) (t2 : ti 11 100 = some true) (x1 : (xa 11).elem 67 = true)
    (ns : List Int) (hl : ns.length ≤ 63) (hb : ∀ z ∈ ns, z.natAbs < 2 ^ 1048577) : VF (P_law_33 c__law_draws c__law_game c__law_made c__law_profiles c__law_refused c__law_same c__law_take c__law_times c_profile_number c_profile_weight c_profiles c_with_kind) [.frz (ns.map .int)] [] (fun y _ => y = .bl true) noq := by
  have hszl : szl = 16777216 := rfl
  refine vf_run ?_
  walk_at "v0"
  walk_at "v"
  refine vc_fr (h1 ns hl hb) (fun y o ⟨n, xs, e1, e2⟩ => ?_) (fun _ _ z => z.elim)
  subst e1; subst e2
  clear hb
  generalize ns.map Y.int = NS at *
  walk_at "v"
  refine (h2 n xs 3 3 (by decide) (by decide) (by decide) (by decide)).mono (fun y o ⟨g, xs2, q, ey, hg, ha3, hk3, eo⟩ => ?_) (fun _ _ z => z.elim)
  subst ey; subst eo
  rw [show dtL g = [.lst (g.ags.map yAg), gSs g.outs, .str g.aim, .bl g.pay, .bl g.lots, .lst (g.nds.map yNd)] from rfl]
  walk_at "w"
  refine vc_p (h4 hg.a3 fun a ha => (hg.ag a ha).k4) ?_
  walk_at "w"
  refine vs_cut (fun E o => ∃ (g : Gm) (xs2 : List Int) (q : Nat), GmOk g ∧ prodK g ≤ 16 ∧ E = [some (.frz NS), some (.own n), some (.own q), some (.lst ((profsL g.ags).map yPf)), none, none, none, none, none, none, none, none, none, none, none, none] ∧ o = [(q, .lst (dtL g)), (n, WI xs2)]) ?_ (fun E o ⟨g, xs2, q, hg, hp, eE, eo⟩ => ?_)
  · walk_at "v"
    · rename_i hlen
      rw [show cutY (g.ags.map yAg) none (some 2) = (g.ags.take 2).map yAg from (cutY_to (k := 2)).trans List.map_take.symm]
      have hm : ∀ a ∈ g.ags.take 2, a ∈ g.ags := fun a ha => List.mem_of_mem_take ha
      have hg' : GmOk { g with ags := g.ags.take 2, nds := [] } := ⟨by show 1 ≤ (g.ags.take 2).length; rw [List.length_take]; have := hg.a1; omega, by show (g.ags.take 2).length ≤ 3; rw [List.length_take]; omega,
        by show ((g.ags.take 2).map Ag.nm).Nodup; rw [List.map_take]; exact List.Sublist.nodup (List.take_sublist _ _) hg.an, fun a ha => hg.ag a (hm a ha), hg.o1, hg.o4, hg.on, hg.os, hg.am, by show 0 ≤ 12; omega, fun d hd => (by cases hd), ?_⟩
      rotate_left
      · exact List.Pairwise.nil
      have hp9 : prodK { g with ags := g.ags.take 2, nds := [] } ≤ 9 := Nat.le_trans (prodK_pow (m := 3) fun a ha => hk3 a (hm a ha)) (by
        have : (g.ags.take 2).length ≤ 2 := List.length_take_le _ _
        exact Nat.pow_le_pow_right (by decide) this)
      refine vc_p (h4 (ags := g.ags.take 2) (by rw [List.length_take]; omega) fun a ha => (hg.ag a (hm a ha)).k4) ?_
      walk_at "v"
      exact ⟨_, xs2, q, hg', by omega, rfl, rfl⟩
    · rename_i hlen
      rw [List.length_map, profs_len] at hlen
      exact ⟨g, xs2, q, hg, by omega, rfl, rfl⟩
  subst eE; subst eo
  refine vs_freeze (n := q) .here (by walk_at "fz") ?_
  have a3 := hg.a3
  have hpl := profs_len g
  have hsm : smZ 2 (.lst ((profsL g.ags).map yPf)) = true := smZ_pfs (by omega) fun p hp => by
    obtain ⟨j, hj, e⟩ := List.getElem_of_mem hp
    have := (prof_ok hg hj).1.l
    rw [e] at this
    omega
  rw [show Y.lst (dtL g) = yGd g from rfl]
  walk_at "v"
  refine vc_p (h3 hg hp) ?_
  walk_at "v"
  refine vc_fr (h12 hg) (fun y o ⟨q2, ey, eo⟩ => ?_) (fun _ _ z => z.elim)
  subst ey; subst eo
  walk_at "v"
  refine vc_look .here (h6 _ hsm) ?_
  walk_at "v"
  refine ⟨chk_L (.own .here), ?_⟩
  walk_at "v"
  refine m_append' .here (by rw [List.length_map]; omega) ?_
  walk_at "v"
  refine vc_p (h11 hg) ?_
  walk_at "v"
  refine vc_p (h6 _ hsm) ?_
  walk_at "v"
  rw [List.length_map]
  refine take_call h7 (.there .here) (by have := hg.a1; omega) (fun a xs3 a0 a1 => ?_)
  obtain ⟨a, rfl⟩ : ∃ b : Nat, a = b := ⟨a.toNat, by omega⟩
  have a1 : a < g.ags.length := by omega
  refine sq_nx ?_
  dsimp only [List.set]
  refine vs_drop (o1 := [(n, WI xs3)]) (by simp) ?_
  walk_at "v"
  refine vs_for (vi_range1 ?_)
  walk_at "v"
  rw [List.length_map, hpl]
  refine ⟨_, rfl, ⟨by omega, by omega⟩, ?_⟩
  refine for_rng (fun t E o => o = [(n, WI xs3)] ∧ ∃ k w j kd mv, E = [some (.frz NS), some (.own n), some (yGd g), some (.lst ((profsL g.ags).map yPf)), some (yGm g), some (.own q2), some (.int (a : Nat)), k, w, j, kd, mv, none, none, none, none]) ⟨rfl, _, _, _, _, _, rfl⟩ (fun t E o ht ⟨eo, k, w, j, kd, mv, eE⟩ => ?_) (fun E o ⟨eo, k, w, j, kd, mv, eE⟩ => ?_)
  · subst eo; subst eE
    have ht : t < (profsL g.ags).length := by rw [hpl]; exact (show t < Int.toNat (prodK g) from ht)
    obtain ⟨pk, pn⟩ := prof_ok hg ht
    have et : L2.atI ((profsL g.ags).map yPf) ((t : Nat) : Int) = some (yPf (profsL g.ags)[t]) := atI_nat (by rw [List.getElem?_map, List.getElem?_eq_getElem ht]; rfl)
    generalize (profsL g.ags)[t] = p at *
    refine ⟨_, tg_n, ?_⟩
    walk_at "set"
    rw [Int.zero_add]
    walk_at "v"
    refine x_lst (.lst _) et ?_
    walk_at "v"
    refine vc_p (h9 hg pk) ?_
    rw [pn]
    walk_at "v"
    refine vc_p (h6 _ (by rfl)) ?_
    walk_at "v"
    refine vs_for (vi_range1 ?_)
    rw [show yGd g = .lst (dtL g) from rfl, show dtL g = [.lst (g.ags.map yAg), gSs g.outs, .str g.aim, .bl g.pay, .bl g.lots, .lst (g.nds.map yNd)] from rfl]
    walk_at "v"
    rw [List.length_map]
    refine ⟨_, rfl, ⟨by omega, by omega⟩, ?_⟩
    refine for_rng (fun u E o => o = [(n, WI xs3)] ∧ ∃ j, E = [some (.frz NS), some (.own n), some (yGd g), some (.lst ((profsL g.ags).map yPf)), some (yGm g), some (.own q2), some (.int (a : Nat)), some (.int (t : Nat)), some (yR (wtT g p u)), j, kd, mv, none, none, none, none]) ⟨rfl, _, rfl⟩ (fun u E o hu ⟨eo, j, eE⟩ => ?_) (fun E o ⟨eo, j, eE⟩ => ?_)
    · subst eo; subst eE
      have hu : u < g.ags.length := by omega
      obtain ⟨hk2, e2, n2⟩ := kd_at hg hu (pk.k u hu)
      have hpu : u < p.length := by have := pk.l; omega
      refine ⟨_, tg_n, ?_⟩
      walk_at "set"
      rw [Int.zero_add]
      rw [show yGd g = .lst [.lst (g.ags.map yAg), gSs g.outs, .str g.aim, .bl g.pay, .bl g.lots, .lst (g.nds.map yNd)] from rfl]
      walk_at "v"
      refine x_lst (.lst _) (atI_nat (k := u) (y := yAg g.ags[u]) (by rw [List.getElem?_map, List.getElem?_eq_getElem hu]; rfl)) ?_
      rw [show yAg g.ags[u] = .tup [.str g.ags[u].nm, .lst (g.ags[u].ks.map yKd)] from rfl]
      walk_at "v"
      refine x_lst (.lst _) et ?_
      walk_at "v"
      refine x_tup (atI_nat (k := u) (y := .int (p.getD u 0 : Nat)) (by rw [List.getElem?_map, List.getElem?_eq_getElem hpu, List.getD_eq_getElem?_getD, List.getElem?_eq_getElem hpu]; rfl)) ?_
      walk_at "v"
      refine x_lst (.lst _) (atI_nat (k := p.getD u 0) (y := yKd (kdAt g.ags u (p.getD u 0))) (by rw [List.getElem?_map, List.getElem?_eq_getElem hk2, e2]; rfl)) ?_
      rw [show yKd (kdAt g.ags u (p.getD u 0)) = .tup [.str (kdAt g.ags u (p.getD u 0)).nm, yR (kdAt g.ags u (p.getD u 0)).w, yR (kdAt g.ags u (p.getD u 0)).al, gRs (kdAt g.ags u (p.getD u 0)).ws] from rfl]
      walk_at "v"
      refine vc_p (h8 (wt_bd hg pk u (by omega)) n2.w (by omega)) ?_
      walk_at "v"
      exact ⟨rfl, _, by rw [wtT_succ]⟩
    · subst eo; subst eE
      rw [show Int.toNat ((g.ags.length : Nat) : Int) = g.ags.length from Int.toNat_natCast _]
      walk_at "v"
      refine x_lst (.lst _) et ?_
      walk_at "v"
      refine vc_p (h10 hg pk) ?_
      walk_at "v"
      refine vc_p (h6 _ (by rfl)) ?_
      walk_at "v"
      have hag : L2.atI (g.ags.map yAg) ((a : Nat) : Int) = some (yAg g.ags[a]) := atI_nat (by rw [List.getElem?_map, List.getElem?_eq_getElem a1]; rfl)
      refine vs_for (vi_range1 ?_)
      rw [show yGd g = .lst [.lst (g.ags.map yAg), gSs g.outs, .str g.aim, .bl g.pay, .bl g.lots, .lst (g.nds.map yNd)] from rfl]
      walk_at "v"
      refine x_lst (.lst _) hag ?_
      rw [show yAg g.ags[a] = .tup [.str g.ags[a].nm, .lst (g.ags[a].ks.map yKd)] from rfl]
      walk_at "v"
      rw [List.length_map]
      have hk4 := (hg.ag _ (List.getElem_mem a1)).k4
      refine ⟨_, rfl, ⟨by omega, by omega⟩, ?_⟩
      refine for_rng (fun c E o => o = [(n, WI xs3)] ∧ ∃ k j kd mv, E = [some (.frz NS), some (.own n), some (yGd g), some (.lst ((profsL g.ags).map yPf)), some (yGm g), some (.own q2), some (.int (a : Nat)), some (.int (t : Nat)), k, j, kd, mv, none, none, none, none]) ⟨rfl, _, _, _, _, rfl⟩ (fun c E o hc ⟨eo, k, j, kd, mv, eE⟩ => ?_) (fun E o ⟨eo, k, j, kd, mv, eE⟩ => ?_)
      · subst eo; subst eE
        have hpl2 := pk.l
        refine ⟨_, tg_n, ?_⟩
        walk_at "set"
        rw [Int.zero_add]
        rw [show yGd g = .lst [.lst (g.ags.map yAg), gSs g.outs, .str g.aim, .bl g.pay, .bl g.lots, .lst (g.nds.map yNd)] from rfl]
        walk_at "v"
        refine vE_Lc false (vi_range1 ?_)
        walk_at "v"
        rw [List.length_map]
        refine ⟨_, rfl, ⟨by omega, by omega⟩, ?_⟩
        refine lc_map (xs := List.range g.ags.length) (f := fun i => .int ((p.set a c).getD i 0 : Nat)) (by rw [List.length_range]; omega) (fun i hi => ⟨_, tg_n, ?_⟩) ?_
        · have hi := List.mem_range.mp hi
          dsimp only [wipeY, List.set]
          rw [Int.zero_add]
          walk_at "v"
          refine x_lst (.lst _) et ?_
          walk_at "v"
          refine x_tup (atI_nat (k := i) (y := .int (p.getD i 0 : Nat)) (by rw [List.getElem?_map, List.getElem?_eq_getElem (show i < p.length by omega), List.getD_eq_getElem?_getD, List.getElem?_eq_getElem (show i < p.length by omega)]; rfl)) ?_
          walk_at "v"
          by_cases hia : i = a
          · subst hia
            rw [if_pos (decide_eq_true rfl), show (p.set i c).getD i 0 = c by rw [List.getD_eq_getElem?_getD, List.getElem?_set_self (by omega)]; rfl]
            exact x_lst (.lst _) rfl ⟨rfl, rfl⟩
          · rw [if_neg (by rw [decide_eq_true_iff]; omega), show (p.set a c).getD i 0 = p.getD i 0 by rw [List.getD_eq_getElem?_getD, List.getElem?_set_ne (fun z => hia z.symm), ← List.getD_eq_getElem?_getD]]
            exact x_lst (.lst _) rfl ⟨rfl, rfl⟩
        · refine NL.fz ?_
          walk_at "v"
          refine f_tuple (.lst _) ?_
          rw [map_rng (xs := p.set a c) (by rw [List.length_set]; exact hpl2)]
          walk_at "v"
          refine x_lst (.lst _) et ?_
          walk_at "v"
          refine vc_p (h13 (by omega) (by omega)) ?_
          walk_at "v"
          refine vc_p (h6 _ (smZ_pf 1 (by rw [List.length_set]; omega))) ?_
          walk_at "v"
          exact ⟨rfl, _, _, _, _, rfl⟩
      · subst eo; subst eE
        walk_at "v"
        exact ⟨rfl, _, _, _, _, _, rfl⟩
  · subst eo; subst eE
    refine sq_nx ?_
    walk_at "v"
    rw [List.length_map, hpl]
    have hp1 := prodK_pos hg
    refine take_call h7 .here (by omega) (fun r xs4 r0 r1 => ?_)
    obtain ⟨r, rfl⟩ : ∃ b : Nat, r = b := ⟨r.toNat, by omega⟩
    have hr : r < (profsL g.ags).length := by omega
    obtain ⟨pk, _⟩ := prof_ok hg hr
    refine x_lst (.lst _) (atI_nat (y := yPf (profsL g.ags)[r]) (by rw [List.getElem?_map, List.getElem?_eq_getElem hr]; rfl)) ?_
    generalize (profsL g.ags)[r] = p at *
    have hpl2 := pk.l
    have ez : yPf p = .tup ((p.map fun k : Nat => (k : Int)).map .int) := by
      show Y.tup _ = _
      rw [List.map_map]
      rfl
    have hz : (p.map fun k : Nat => (k : Int)).length = g.ags.length := by rw [List.length_map]; exact hpl2
    rw [ez]
    generalize (p.map fun k : Nat => (k : Int)) = z at *
    have ht1 : ((z.map Y.int).take a).length = a := by rw [List.length_take, List.length_map]; omega
    have hd1 : ((z.map Y.int).drop (a + 1)).length ≤ 3 := by rw [List.length_drop, List.length_map]; omega
    walk_at "vl"
    rw [show cutY (z.map Y.int) (some ((a : Nat) + 1)) none = (z.map Y.int).drop (a + 1) from cutY_from (k := a + 1)]
    refine vE_Lst true ?_
    walk_at "v"
    refine b_addT0 (by rw [List.length_map]; simp only [List.length_singleton]; omega) ?_
    walk_at "v"
    rw [show cutY (z.map Y.int) (some 1) none = (z.map Y.int).drop 1 from cutY_from (k := 1), show cutY (z.map Y.int) none (some (a : Nat)) = (z.map Y.int).take a from cutY_to]
    have hag : L2.atI (g.ags.map yAg) ((a : Nat) : Int) = some (yAg g.ags[a]) := atI_nat (by rw [List.getElem?_map, List.getElem?_eq_getElem a1]; rfl)
    rw [show yGd g = .lst [.lst (g.ags.map yAg), gSs g.outs, .str g.aim, .bl g.pay, .bl g.lots, .lst (g.nds.map yNd)] from rfl]
    walk_at "v"
    refine x_lst (.lst _) hag ?_
    rw [show yAg g.ags[a] = .tup [.str g.ags[a].nm, .lst (g.ags[a].ks.map yKd)] from rfl]
    walk_at "v"
    rw [List.length_map]
    refine b_addT0 (by simp only [List.length_singleton]; omega) ?_
    walk_at "v"
    refine b_addT0 (by rw [List.length_append]; simp only [List.length_singleton]; omega) ?_
    walk_at "v"
    rename_i q3 hq3
    refine ⟨chk_L (.own .here), ?_⟩
    walk_at "v"
    rw [show cutY (z.map Y.int) none (some (a : Nat)) = (z.map Y.int).take a from cutY_to]
    refine b_addT0 (by simp only [List.length_singleton]; omega) ?_
    walk_at "v"
    refine b_addT0 (by rw [List.length_append]; simp only [List.length_singleton]; omega) ?_
    walk_at "v"
    refine m_append' .here (by simp only [List.length_cons, List.length_nil]; omega) ?_
    have hk1 : kC g.ags a = g.ags[a].ks.length := kC_at a1
    have hbad : ∀ zs ∈ [z ++ [0], z.drop 1, z.take a ++ [((g.ags[a].ks.length : Nat) : Int)] ++ z.drop (a + 1), z.take a ++ [-1] ++ z.drop (a + 1)], ¬ okIz g.ags zs ∧ zs.length ≤ 100 := by
      simp only [List.forall_mem_cons, List.forall_mem_nil]
      refine ⟨⟨fun w => ?_, ?_⟩, ⟨fun w => ?_, ?_⟩, ⟨fun w => ?_, ?_⟩, ⟨fun w => ?_, ?_⟩, ?_⟩
      · have := w.1; rw [List.length_append, List.length_singleton] at this; omega
      · rw [List.length_append, List.length_singleton]; omega
      · have := w.1; rw [List.length_drop] at this; have := hg.a1; omega
      · rw [List.length_drop]; omega
      · have := w.2 a a1; rw [mid_at (by omega)] at this; omega
      · rw [List.length_append, List.length_append, List.length_take, List.length_singleton, List.length_drop]; omega
      · have := w.2 a a1; rw [mid_at (by omega)] at this; omega
      · rw [List.length_append, List.length_append, List.length_take, List.length_singleton, List.length_drop]; omega
      · exact fun _ h => absurd h List.not_mem_nil
    rw [show [Y.tup (z.map Y.int ++ [.int 0]), Y.tup ((z.map Y.int).drop 1), Y.tup ((z.map Y.int).take a ++ [.int ((g.ags[a].ks.length : Nat) : Int)] ++ (z.map Y.int).drop (a + 1))] ++ [Y.tup ((z.map Y.int).take a ++ [.int (-1)] ++ (z.map Y.int).drop (a + 1))] =
      [z ++ [0], z.drop 1, z.take a ++ [((g.ags[a].ks.length : Nat) : Int)] ++ z.drop (a + 1), z.take a ++ [-1] ++ z.drop (a + 1)].map (fun zs => Y.tup (zs.map Y.int)) by simp [List.map_take, List.map_drop]]
    generalize [z ++ [0], z.drop 1, z.take a ++ [((g.ags[a].ks.length : Nat) : Int)] ++ z.drop (a + 1), z.take a ++ [-1] ++ z.drop (a + 1)] = L at *
    refine sq_nx ?_
    refine vs_freeze (n := q3) .here (by walk_at "fz") ?_
    walk_at "v"
    refine vs_for (vi_seq ?_)
    walk_at "v"
    refine ⟨_, _, .lst _, ?_⟩
    refine for_mapI (fun i E o => o = [(n, WI xs4)] ∧ ∃ (vv0 : Option Y) (vv1 : Option Y) (vv2 : Option Y) (vv3 : Option Y) (vv5 : Option Y) (vv6 : Option Y) (vv7 : Option Y) (vv8 : Option Y) (vv9 : Option Y) (vv10 : Option Y) (vv11 : Option Y) (vv12 : Option Y) (vv13 : Option Y) (vv14 : Option Y) (vv15 : Option Y), E = [vv0, vv1, vv2, vv3, some (yGm g), vv5, vv6, vv7, vv8, vv9, vv10, vv11, vv12, vv13, vv14, vv15]) ⟨rfl, _, _, _, _, _, _, _, _, _, _, _, _, _, _, _, rfl⟩ (fun i hi E o ⟨eo, vv0, vv1, vv2, vv3, vv5, vv6, vv7, vv8, vv9, vv10, vv11, vv12, vv13, vv14, vv15, eE⟩ => ?_) (fun E o ⟨eo, vv0, vv1, vv2, vv3, vv5, vv6, vv7, vv8, vv9, vv10, vv11, vv12, vv13, vv14, vv15, eE⟩ => ?_)
    · subst eo; subst eE
      obtain ⟨b1, b2⟩ := hbad _ (List.getElem_mem hi)
      refine ⟨_, tg_n, ?_⟩
      walk_at "set"
      walk_at "v"
      refine vc_p (h5 s1 t1 t2 x1 hg b1 b2) ?_
      walk_at "v"
      exact ⟨rfl, _, _, _, _, _, _, _, _, _, _, _, _, _, _, _, rfl⟩
    · subst eo; subst eE
      walk_at "v"
      exact ret_v (List.Sublist.refl _) rfl
end
end Mn
namespace Lw
open PySem L2 Mn
def topS (i : Nat) : Stmt := PySem.Challenge.pw_unbent_k19_profiles.main.body.getD i (.Pass ⟨0, 0, 0, 0⟩)
def subT : Nat → Nat → Option Bool := tb2 [(2, 11, false), (9, 11, false), (11, 11, true), (16, 11, false)]
def isiT : Nat → Nat → Option Bool := tb2 [(2, 2, true), (2, 100, true), (9, 2, false), (9, 100, true), (11, 2, false), (11, 100, true), (16, 2, false), (16, 100, true)]
def xaT : Nat → List Nat := xaOf [(2, [69]), (9, [48]), (11, [67])]
def gl0 : Str × GV := ("is_integer", .fn 0 1 [])
def gl1 : Str × GV := ("is_ratio", .fn 1 1 [])
def gl2 : Str × GV := ("make", .fn 2 2 [.int 1])
def gl3 : Str × GV := ("multiply", .fn 3 2 [])
def gl4 : Str × GV := ("compare", .fn 4 2 [])
def gl5 : Str × GV := ("sign", .fn 5 1 [])
def gl6 : Str × GV := ("is_name", .fn 6 1 [])
def gl7 : Str × GV := ("are_names", .fn 7 1 [])
def gl8 : Str × GV := ("is_index", .fn 8 2 [])
def gl9 : Str × GV := ("is_swap", .fn 9 2 [])
def gl10 : Str × GV := ("is_choice", .fn 10 2 [])
def gl11 : Str × GV := ("is_need", .fn 11 3 [])
def gl12 : Str × GV := ("is_excluded", .fn 12 2 [])
def gl13 : Str × GV := ("check_limits", .fn 13 3 [])
def gl14 : Str × GV := ("check_game", .fn 14 4 [])
def gl15 : Str × GV := ("copied_kinds", .fn 15 1 [])
def gl16 : Str × GV := ("copied_need", .fn 16 1 [])
def gl17 : Str × GV := ("profiles", .fn 17 1 [])
def gl18 : Str × GV := ("profile_number", .fn 18 2 [])
def gl19 : Str × GV := ("with_kind", .fn 19 3 [])
def gl20 : Str × GV := ("profile_weight", .fn 20 2 [])
def gl21 : Str × GV := ("_law_draws", .fn 21 1 [])
def gl22 : Str × GV := ("_law_take", .fn 22 2 [])
def gl23 : Str × GV := ("_law_names", .fn 23 2 [])
def gl24 : Str × GV := ("_law_make", .fn 24 2 [])
def gl25 : Str × GV := ("_law_times", .fn 25 2 [])
def gl26 : Str × GV := ("_law_fraction", .fn 26 2 [])
def gl27 : Str × GV := ("_law_kinds", .fn 27 3 [])
def gl28 : Str × GV := ("_law_swap", .fn 28 2 [])
def gl29 : Str × GV := ("_law_needs", .fn 29 3 [])
def gl30 : Str × GV := ("_law_game", .fn 30 3 [])
def gl31 : Str × GV := ("_law_copy_agents", .fn 31 1 [])
def gl32 : Str × GV := ("_law_copy_needs", .fn 32 1 [])
def gl33 : Str × GV := ("_law_made", .fn 33 1 [])
def gl34 : Str × GV := ("_law_profiles", .fn 34 1 [])
def gl35 : Str × GV := ("_law_same", .fn 35 2 [])
def gl36 : Str × GV := ("_law_refused", .fn 36 2 [])
def gl37 : Str × GV := ("law", .fn 37 1 [])
def gl38 : Str × GV := ("UnbentError", .cls 0)
def gl39 : Str × GV := ("InvalidGame", .xcls 2 [69])
def gl40 : Str × GV := ("TooLarge", .xcls 9 [48])
def gl41 : Str × GV := ("UnknownProfile", .xcls 11 [67])
def gl42 : Str × GV := ("ZeroDenominator", .cls 16)
def gl43 : Str × GV := ("Game", .ucls 43 38 7 [] [] [(2, ["aim", "payments", "lots", "needs"], [.p 0, .p 1, .p 2, .k 0, .k 1, .k 2, .k 3], [])])
def gl44 : Str × GV := ("ValueError", .bcls 100)
def gl45 : Str × GV := ("ZERO", .val (.tup [(.int 0), (.int 1)]))
def gl46 : Str × GV := ("ONE", .val (.tup [(.int 1), (.int 1)]))
def gl47 : Str × GV := ("MOST_AGENTS", .val (.int 4))
def gl48 : Str × GV := ("MOST_KINDS", .val (.int 4))
def gl49 : Str × GV := ("MOST_OUTCOMES", .val (.int 6))
def gl50 : Str × GV := ("MOST_NEEDS", .val (.int 12))
def gl51 : Str × GV := ("MOST_PROFILES", .val (.int 16))
def gl52 : Str × GV := ("AIMS", .val (.tup [(.str "total"), (.str "worst"), (.str "paid")]))
def gl53 : Str × GV := ("SINGLE_NEEDS", .val (.tup [(.str "part"), (.str "budget"), (.str "even"), (.str "bound")]))
def gl54 : Str × GV := ("LETTERS", .val (.str "abcdefghijklmnopqrstuvwxyz"))
def gl55 : Str × GV := ("gcd", .bf "math.gcd")
def gl56 : Str × GV := ("abs", .blt)
def gl57 : Str × GV := ("all", .blt)
def gl58 : Str × GV := ("any", .blt)
def gl59 : Str × GV := ("bool", .blt)
def gl60 : Str × GV := ("enumerate", .blt)
def gl61 : Str × GV := ("int", .blt)
def gl62 : Str × GV := ("isinstance", .blt)
def gl63 : Str × GV := ("len", .blt)
def gl64 : Str × GV := ("list", .blt)
def gl65 : Str × GV := ("range", .blt)
def gl66 : Str × GV := ("reversed", .blt)
def gl67 : Str × GV := ("set", .blt)
def gl68 : Str × GV := ("str", .blt)
def gl69 : Str × GV := ("tuple", .blt)
def gl : List (Str × GV) := [gl0, gl1, gl2, gl3, gl4, gl5, gl6, gl7, gl8, gl9, gl10, gl11, gl12, gl13, gl14, gl15, gl16, gl17, gl18, gl19, gl20, gl21, gl22, gl23, gl24, gl25, gl26, gl27, gl28, gl29, gl30, gl31, gl32, gl33, gl34, gl35, gl36, gl37, gl38, gl39, gl40, gl41, gl42, gl43, gl44, gl45, gl46, gl47, gl48, gl49, gl50, gl51, gl52, gl53, gl54, gl55, gl56, gl57, gl58, gl59, gl60, gl61, gl62, gl63, gl64, gl65, gl66, gl67, gl68, gl69]
abbrev st_is_integer : Stmt := topS 10
abbrev nm_is_integer : List Str := ["value"]
theorem sc_is_integer : FnScope nm_is_integer ["value"] (defScope st_is_integer) := ⟨rfl, rfl, rfl, by decide +kernel, rfl, by decide +kernel, by decide +kernel⟩
abbrev st_is_ratio : Stmt := topS 11
abbrev nm_is_ratio : List Str := ["value"]
theorem sc_is_ratio : FnScope nm_is_ratio ["value"] (defScope st_is_ratio) := ⟨rfl, rfl, rfl, by decide +kernel, rfl, by decide +kernel, by decide +kernel⟩
abbrev st_make : Stmt := topS 12
abbrev nm_make : List Str := ["p", "q", "divisor"]
theorem sc_make : FnScope nm_make ["p", "q"] (defScope st_make) := ⟨rfl, rfl, rfl, by decide +kernel, rfl, by decide +kernel, by decide +kernel⟩
abbrev st_multiply : Stmt := topS 13
abbrev nm_multiply : List Str := ["a", "b"]
theorem sc_multiply : FnScope nm_multiply ["a", "b"] (defScope st_multiply) := ⟨rfl, rfl, rfl, by decide +kernel, rfl, by decide +kernel, by decide +kernel⟩
abbrev st_compare : Stmt := topS 14
abbrev nm_compare : List Str := ["a", "b", "difference"]
theorem sc_compare : FnScope nm_compare ["a", "b"] (defScope st_compare) := ⟨rfl, rfl, rfl, by decide +kernel, rfl, by decide +kernel, by decide +kernel⟩
abbrev st_sign : Stmt := topS 15
abbrev nm_sign : List Str := ["a"]
theorem sc_sign : FnScope nm_sign ["a"] (defScope st_sign) := ⟨rfl, rfl, rfl, by decide +kernel, rfl, by decide +kernel, by decide +kernel⟩
abbrev st_is_name : Stmt := topS 25
abbrev nm_is_name : List Str := ["word", "letter"]
theorem sc_is_name : FnScope nm_is_name ["word"] (defScope st_is_name) := ⟨rfl, rfl, rfl, by decide +kernel, rfl, by decide +kernel, by decide +kernel⟩
abbrev st_are_names : Stmt := topS 26
abbrev nm_are_names : List Str := ["words", "word"]
theorem sc_are_names : FnScope nm_are_names ["words"] (defScope st_are_names) := ⟨rfl, rfl, rfl, by decide +kernel, rfl, by decide +kernel, by decide +kernel⟩
abbrev st_is_index : Stmt := topS 27
abbrev nm_is_index : List Str := ["value", "count"]
theorem sc_is_index : FnScope nm_is_index ["value", "count"] (defScope st_is_index) := ⟨rfl, rfl, rfl, by decide +kernel, rfl, by decide +kernel, by decide +kernel⟩
abbrev st_is_swap : Stmt := topS 28
abbrev nm_is_swap : List Str := ["swap", "count", "value", "index"]
theorem sc_is_swap : FnScope nm_is_swap ["swap", "count"] (defScope st_is_swap) := ⟨rfl, rfl, rfl, by decide +kernel, rfl, by decide +kernel, by decide +kernel⟩
abbrev st_is_choice : Stmt := topS 29
abbrev nm_is_choice : List Str := ["chosen", "count", "value", "k"]
theorem sc_is_choice : FnScope nm_is_choice ["chosen", "count"] (defScope st_is_choice) := ⟨rfl, rfl, rfl, by decide +kernel, rfl, by decide +kernel, by decide +kernel⟩
abbrev st_is_need : Stmt := topS 30
abbrev nm_is_need : List Str := ["need", "agent_count", "outcome_count"]
theorem sc_is_need : FnScope nm_is_need ["need", "agent_count", "outcome_count"] (defScope st_is_need) := ⟨rfl, rfl, rfl, by decide +kernel, rfl, by decide +kernel, by decide +kernel⟩
abbrev st_is_excluded : Stmt := topS 31
abbrev nm_is_excluded : List Str := ["need", "earlier", "other"]
theorem sc_is_excluded : FnScope nm_is_excluded ["need", "earlier"] (defScope st_is_excluded) := ⟨rfl, rfl, rfl, by decide +kernel, rfl, by decide +kernel, by decide +kernel⟩
abbrev st_check_limits : Stmt := topS 32
abbrev nm_check_limits : List Str := ["agents", "outcomes", "needs", "profile_count", "_", "kinds"]
theorem sc_check_limits : FnScope nm_check_limits ["agents", "outcomes", "needs"] (defScope st_check_limits) := ⟨rfl, rfl, rfl, by decide +kernel, rfl, by decide +kernel, by decide +kernel⟩
abbrev st_check_game : Stmt := topS 33
abbrev nm_check_game : List Str := ["agents", "outcomes", "aim", "needs", "_", "kinds", "index", "need", "name", "kind"]
theorem sc_check_game : FnScope nm_check_game ["agents", "outcomes", "aim", "needs"] (defScope st_check_game) := ⟨rfl, rfl, rfl, by decide +kernel, rfl, by decide +kernel, by decide +kernel⟩
abbrev st_copied_kinds : Stmt := topS 34
abbrev nm_copied_kinds : List Str := ["kinds", "name", "weight", "alone", "worths"]
theorem sc_copied_kinds : FnScope nm_copied_kinds ["kinds"] (defScope st_copied_kinds) := ⟨rfl, rfl, rfl, by decide +kernel, rfl, by decide +kernel, by decide +kernel⟩
abbrev st_copied_need : Stmt := topS 35
abbrev nm_copied_need : List Str := ["need", "parts", "part"]
theorem sc_copied_need : FnScope nm_copied_need ["need"] (defScope st_copied_need) := ⟨rfl, rfl, rfl, by decide +kernel, rfl, by decide +kernel, by decide +kernel⟩
abbrev st_profiles : Stmt := topS 37
abbrev nm_profiles : List Str := ["game", "rows", "_", "kinds", "row", "kind"]
theorem sc_profiles : FnScope nm_profiles ["game"] (defScope st_profiles) := ⟨rfl, rfl, rfl, by decide +kernel, rfl, by decide +kernel, by decide +kernel⟩
abbrev st_profile_number : Stmt := topS 38
abbrev nm_profile_number : List Str := ["game", "profile", "number", "agent", "kind", "count"]
theorem sc_profile_number : FnScope nm_profile_number ["game", "profile"] (defScope st_profile_number) := ⟨rfl, rfl, rfl, by decide +kernel, rfl, by decide +kernel, by decide +kernel⟩
abbrev st_with_kind : Stmt := topS 39
abbrev nm_with_kind : List Str := ["profile", "agent", "kind"]
theorem sc_with_kind : FnScope nm_with_kind ["profile", "agent", "kind"] (defScope st_with_kind) := ⟨rfl, rfl, rfl, by decide +kernel, rfl, by decide +kernel, by decide +kernel⟩
abbrev st_profile_weight : Stmt := topS 40
abbrev nm_profile_weight : List Str := ["game", "profile", "result", "agent", "kind"]
theorem sc_profile_weight : FnScope nm_profile_weight ["game", "profile"] (defScope st_profile_weight) := ⟨rfl, rfl, rfl, by decide +kernel, rfl, by decide +kernel, by decide +kernel⟩
abbrev st__law_draws : Stmt := topS 42
abbrev nm__law_draws : List Str := ["_law_script", "_law_draws_here", "_law_cell", "_law_number", "_law_first", "_law_k", "_law_seed"]
theorem sc__law_draws : FnScope nm__law_draws ["_law_script"] (defScope st__law_draws) := ⟨rfl, rfl, rfl, by decide +kernel, rfl, by decide +kernel, by decide +kernel⟩
abbrev st__law_take : Stmt := topS 43
abbrev nm__law_take : List Str := ["_law_draws_here", "_law_bound"]
theorem sc__law_take : FnScope nm__law_take ["_law_draws_here", "_law_bound"] (defScope st__law_take) := ⟨rfl, rfl, rfl, by decide +kernel, rfl, by decide +kernel, by decide +kernel⟩
abbrev st__law_names : Stmt := topS 44
abbrev nm__law_names : List Str := ["_law_draws_here", "_law_many", "_law_letters", "_law_names_here", "_law_k", "_law_name", "_law_j"]
theorem sc__law_names : FnScope nm__law_names ["_law_draws_here", "_law_many"] (defScope st__law_names) := ⟨rfl, rfl, rfl, by decide +kernel, rfl, by decide +kernel, by decide +kernel⟩
abbrev st__law_make : Stmt := topS 45
abbrev nm__law_make : List Str := ["_law_p", "_law_q", "_law_a", "_law_b", "_law_k", "_law_rest"]
theorem sc__law_make : FnScope nm__law_make ["_law_p", "_law_q"] (defScope st__law_make) := ⟨rfl, rfl, rfl, by decide +kernel, rfl, by decide +kernel, by decide +kernel⟩
abbrev st__law_times : Stmt := topS 46
abbrev nm__law_times : List Str := ["_law_a", "_law_b"]
theorem sc__law_times : FnScope nm__law_times ["_law_a", "_law_b"] (defScope st__law_times) := ⟨rfl, rfl, rfl, by decide +kernel, rfl, by decide +kernel, by decide +kernel⟩
abbrev st__law_fraction : Stmt := topS 47
abbrev nm__law_fraction : List Str := ["_law_draws_here", "_law_least", "_law_kind", "_law_value"]
theorem sc__law_fraction : FnScope nm__law_fraction ["_law_draws_here", "_law_least"] (defScope st__law_fraction) := ⟨rfl, rfl, rfl, by decide +kernel, rfl, by decide +kernel, by decide +kernel⟩
abbrev st__law_kinds : Stmt := topS 48
abbrev nm__law_kinds : List Str := ["_law_draws_here", "_law_most", "_law_outcomes", "_law_kinds_here", "_law_name", "_law_worths", "_law_k"]
theorem sc__law_kinds : FnScope nm__law_kinds ["_law_draws_here", "_law_most", "_law_outcomes"] (defScope st__law_kinds) := ⟨rfl, rfl, rfl, by decide +kernel, rfl, by decide +kernel, by decide +kernel⟩
abbrev st__law_swap : Stmt := topS 49
abbrev nm__law_swap : List Str := ["_law_draws_here", "_law_count", "_law_swap_here", "_law_first", "_law_second"]
theorem sc__law_swap : FnScope nm__law_swap ["_law_draws_here", "_law_count"] (defScope st__law_swap) := ⟨rfl, rfl, rfl, by decide +kernel, rfl, by decide +kernel, by decide +kernel⟩
abbrev st__law_needs : Stmt := topS 50
abbrev nm__law_needs : List Str := ["_law_draws_here", "_law_agents", "_law_outcomes", "_law_needs_here", "_law_word", "_law_a", "_law_b", "_law_k", "_law_chosen", "_law_rest", "_law_o"]
theorem sc__law_needs : FnScope nm__law_needs ["_law_draws_here", "_law_agents", "_law_outcomes"] (defScope st__law_needs) := ⟨rfl, rfl, rfl, by decide +kernel, rfl, by decide +kernel, by decide +kernel⟩
abbrev st__law_game : Stmt := topS 51
abbrev nm__law_game : List Str := ["_law_draws_here", "_law_most_agents", "_law_most_kinds", "_law_outcomes", "_law_agents", "_law_name", "_law_aim", "_law_flags"]
theorem sc__law_game : FnScope nm__law_game ["_law_draws_here", "_law_most_agents", "_law_most_kinds"] (defScope st__law_game) := ⟨rfl, rfl, rfl, by decide +kernel, rfl, by decide +kernel, by decide +kernel⟩
abbrev st__law_copy_agents : Stmt := topS 52
abbrev nm__law_copy_agents : List Str := ["_law_agents", "_law_row", "_law_kind"]
theorem sc__law_copy_agents : FnScope nm__law_copy_agents ["_law_agents"] (defScope st__law_copy_agents) := ⟨rfl, rfl, rfl, by decide +kernel, rfl, by decide +kernel, by decide +kernel⟩
abbrev st__law_copy_needs : Stmt := topS 53
abbrev nm__law_copy_needs : List Str := ["_law_needs_here", "_law_found", "_law_need", "_law_last"]
theorem sc__law_copy_needs : FnScope nm__law_copy_needs ["_law_needs_here"] (defScope st__law_copy_needs) := ⟨rfl, rfl, rfl, by decide +kernel, rfl, by decide +kernel, by decide +kernel⟩
abbrev st__law_made : Stmt := topS 54
abbrev nm__law_made : List Str := ["_law_data"]
theorem sc__law_made : FnScope nm__law_made ["_law_data"] (defScope st__law_made) := ⟨rfl, rfl, rfl, by decide +kernel, rfl, by decide +kernel, by decide +kernel⟩
abbrev st__law_profiles : Stmt := topS 55
abbrev nm__law_profiles : List Str := ["_law_agents", "_law_rows", "_law_agent", "_law_longer", "_law_row", "_law_kind"]
theorem sc__law_profiles : FnScope nm__law_profiles ["_law_agents"] (defScope st__law_profiles) := ⟨rfl, rfl, rfl, by decide +kernel, rfl, by decide +kernel, by decide +kernel⟩
abbrev st__law_same : Stmt := topS 56
abbrev nm__law_same : List Str := ["_law_value", "_law_due", "_law_k"]
theorem sc__law_same : FnScope nm__law_same ["_law_value", "_law_due"] (defScope st__law_same) := ⟨rfl, rfl, rfl, by decide +kernel, rfl, by decide +kernel, by decide +kernel⟩
abbrev st__law_refused : Stmt := topS 57
abbrev nm__law_refused : List Str := ["_law_game_here", "_law_profile", "_law_answers", "e"]
theorem sc__law_refused : FnScope nm__law_refused ["_law_game_here", "_law_profile"] (defScope st__law_refused) := ⟨rfl, rfl, rfl, by decide +kernel, rfl, by decide +kernel, by decide +kernel⟩
abbrev st_law : Stmt := topS 58
abbrev nm_law : List Str := ["_law_script", "_law_draws_here", "_law_data", "_law_due", "_law_game_here", "_law_told", "_law_agent", "_law_k", "_law_weight", "_law_j", "_law_kind", "_law_moved", "_law_profile", "_law_rest", "_law_bad", "_law_row"]
theorem sc_law : FnScope nm_law ["_law_script"] (defScope st_law) := ⟨rfl, rfl, rfl, by decide +kernel, rfl, by decide +kernel, by decide +kernel⟩
abbrev st_Game___init__ : Stmt := inClass (topS 36) 0
abbrev nm_Game___init__ : List Str := ["self", "agents", "outcomes", "aim", "payments", "lots", "needs", "name", "kinds", "need"]
theorem sc_Game___init__ : FnScope nm_Game___init__ ["self", "agents", "outcomes", "aim", "payments", "lots", "needs"] (defScope st_Game___init__) := ⟨rfl, rfl, rfl, by decide +kernel, rfl, by decide +kernel, by decide +kernel⟩
abbrev st_InvalidGame : Stmt := inClass (topS 3) 0
theorem sc_InvalidGame : FnScope ["self", "reason"] ["self", "reason"] (defScope st_InvalidGame) := ⟨rfl, rfl, rfl, by decide +kernel, rfl, by decide +kernel, by decide +kernel⟩
abbrev st_TooLarge : Stmt := inClass (topS 4) 0
theorem sc_TooLarge : FnScope ["self", "limit"] ["self", "limit"] (defScope st_TooLarge) := ⟨rfl, rfl, rfl, by decide +kernel, rfl, by decide +kernel, by decide +kernel⟩
abbrev st_UnknownProfile : Stmt := inClass (topS 5) 0
theorem sc_UnknownProfile : FnScope ["self", "profile"] ["self", "profile"] (defScope st_UnknownProfile) := ⟨rfl, rfl, rfl, by decide +kernel, rfl, by decide +kernel, by decide +kernel⟩
def fl : List (Str × Nat) := [("agents", 13), ("aim", 14), ("lots", 52), ("needs", 56), ("outcomes", 62), ("payments", 64), ("profile", 67)]
def ms : List (Str × List (Nat × Nat × Nat × List D)) := []
def pg : Pg := ⟨[⟨nm_is_integer, defScope st_is_integer, defBody st_is_integer⟩, ⟨nm_is_ratio, defScope st_is_ratio, defBody st_is_ratio⟩, ⟨nm_make, defScope st_make, defBody st_make⟩, ⟨nm_multiply, defScope st_multiply, defBody st_multiply⟩, ⟨nm_compare, defScope st_compare, defBody st_compare⟩, ⟨nm_sign, defScope st_sign, defBody st_sign⟩, ⟨nm_is_name, defScope st_is_name, defBody st_is_name⟩, ⟨nm_are_names, defScope st_are_names, defBody st_are_names⟩, ⟨nm_is_index, defScope st_is_index, defBody st_is_index⟩, ⟨nm_is_swap, defScope st_is_swap, defBody st_is_swap⟩, ⟨nm_is_choice, defScope st_is_choice, defBody st_is_choice⟩, ⟨nm_is_need, defScope st_is_need, defBody st_is_need⟩, ⟨nm_is_excluded, defScope st_is_excluded, defBody st_is_excluded⟩, ⟨nm_check_limits, defScope st_check_limits, defBody st_check_limits⟩, ⟨nm_check_game, defScope st_check_game, defBody st_check_game⟩, ⟨nm_copied_kinds, defScope st_copied_kinds, defBody st_copied_kinds⟩, ⟨nm_copied_need, defScope st_copied_need, defBody st_copied_need⟩, ⟨nm_profiles, defScope st_profiles, defBody st_profiles⟩, ⟨nm_profile_number, defScope st_profile_number, defBody st_profile_number⟩, ⟨nm_with_kind, defScope st_with_kind, defBody st_with_kind⟩, ⟨nm_profile_weight, defScope st_profile_weight, defBody st_profile_weight⟩, ⟨nm__law_draws, defScope st__law_draws, defBody st__law_draws⟩, ⟨nm__law_take, defScope st__law_take, defBody st__law_take⟩, ⟨nm__law_names, defScope st__law_names, defBody st__law_names⟩, ⟨nm__law_make, defScope st__law_make, defBody st__law_make⟩, ⟨nm__law_times, defScope st__law_times, defBody st__law_times⟩, ⟨nm__law_fraction, defScope st__law_fraction, defBody st__law_fraction⟩, ⟨nm__law_kinds, defScope st__law_kinds, defBody st__law_kinds⟩, ⟨nm__law_swap, defScope st__law_swap, defBody st__law_swap⟩, ⟨nm__law_needs, defScope st__law_needs, defBody st__law_needs⟩, ⟨nm__law_game, defScope st__law_game, defBody st__law_game⟩, ⟨nm__law_copy_agents, defScope st__law_copy_agents, defBody st__law_copy_agents⟩, ⟨nm__law_copy_needs, defScope st__law_copy_needs, defBody st__law_copy_needs⟩, ⟨nm__law_made, defScope st__law_made, defBody st__law_made⟩, ⟨nm__law_profiles, defScope st__law_profiles, defBody st__law_profiles⟩, ⟨nm__law_same, defScope st__law_same, defBody st__law_same⟩, ⟨nm__law_refused, defScope st__law_refused, defBody st__law_refused⟩, ⟨nm_law, defScope st_law, defBody st_law⟩, ⟨nm_Game___init__, defScope st_Game___init__, defBody st_Game___init__⟩], gl, fl, ms, subT, isiT, xaT, 1000000000⟩
theorem E_is_integer (T : Nat → FD) (J : HX) : pg.run T J ⟨nm_is_integer, defScope st_is_integer, defBody st_is_integer⟩ = P_is_integer := by rfl
theorem U_is_integer (k : Nat) : pg.tbl (k + 1) 0 = P_is_integer := E_is_integer _ _
theorem E_is_ratio (T : Nat → FD) (J : HX) : pg.run T J ⟨nm_is_ratio, defScope st_is_ratio, defBody st_is_ratio⟩ = P_is_ratio (T 0) := by rfl
theorem U_is_ratio (k : Nat) : pg.tbl (k + 1) 1 = P_is_ratio (pg.tbl k 0) := E_is_ratio _ _
theorem E_make (T : Nat → FD) (J : HX) : pg.run T J ⟨nm_make, defScope st_make, defBody st_make⟩ = P_make := by rfl
theorem U_make (k : Nat) : pg.tbl (k + 1) 2 = P_make := E_make _ _
theorem E_multiply (T : Nat → FD) (J : HX) : pg.run T J ⟨nm_multiply, defScope st_multiply, defBody st_multiply⟩ = P_multiply (T 2) := by rfl
theorem U_multiply (k : Nat) : pg.tbl (k + 1) 3 = P_multiply (pg.tbl k 2) := E_multiply _ _
theorem E_compare (T : Nat → FD) (J : HX) : pg.run T J ⟨nm_compare, defScope st_compare, defBody st_compare⟩ = P_compare := by rfl
theorem U_compare (k : Nat) : pg.tbl (k + 1) 4 = P_compare := E_compare _ _
theorem E_sign (T : Nat → FD) (J : HX) : pg.run T J ⟨nm_sign, defScope st_sign, defBody st_sign⟩ = P_sign (T 4) := by rfl
theorem U_sign (k : Nat) : pg.tbl (k + 1) 5 = P_sign (pg.tbl k 4) := E_sign _ _
theorem E_is_name (T : Nat → FD) (J : HX) : pg.run T J ⟨nm_is_name, defScope st_is_name, defBody st_is_name⟩ = P_is_name := by rfl
theorem U_is_name (k : Nat) : pg.tbl (k + 1) 6 = P_is_name := E_is_name _ _
theorem E_are_names (T : Nat → FD) (J : HX) : pg.run T J ⟨nm_are_names, defScope st_are_names, defBody st_are_names⟩ = P_are_names (T 6) := by rfl
theorem U_are_names (k : Nat) : pg.tbl (k + 1) 7 = P_are_names (pg.tbl k 6) := E_are_names _ _
theorem E_is_index (T : Nat → FD) (J : HX) : pg.run T J ⟨nm_is_index, defScope st_is_index, defBody st_is_index⟩ = P_is_index (T 0) := by rfl
theorem U_is_index (k : Nat) : pg.tbl (k + 1) 8 = P_is_index (pg.tbl k 0) := E_is_index _ _
theorem E_is_swap (T : Nat → FD) (J : HX) : pg.run T J ⟨nm_is_swap, defScope st_is_swap, defBody st_is_swap⟩ = P_is_swap (T 8) := by rfl
theorem U_is_swap (k : Nat) : pg.tbl (k + 1) 9 = P_is_swap (pg.tbl k 8) := E_is_swap _ _
theorem E_is_choice (T : Nat → FD) (J : HX) : pg.run T J ⟨nm_is_choice, defScope st_is_choice, defBody st_is_choice⟩ = P_is_choice (T 8) := by rfl
theorem U_is_choice (k : Nat) : pg.tbl (k + 1) 10 = P_is_choice (pg.tbl k 8) := E_is_choice _ _
theorem E_is_need (T : Nat → FD) (J : HX) : pg.run T J ⟨nm_is_need, defScope st_is_need, defBody st_is_need⟩ = P_is_need (T 10) (T 8) (T 1) (T 9) (T 5) := by rfl
theorem U_is_need (k : Nat) : pg.tbl (k + 1) 11 = P_is_need (pg.tbl k 10) (pg.tbl k 8) (pg.tbl k 1) (pg.tbl k 9) (pg.tbl k 5) := E_is_need _ _
theorem E_is_excluded (T : Nat → FD) (J : HX) : pg.run T J ⟨nm_is_excluded, defScope st_is_excluded, defBody st_is_excluded⟩ = P_is_excluded := by rfl
theorem U_is_excluded (k : Nat) : pg.tbl (k + 1) 12 = P_is_excluded := E_is_excluded _ _
theorem E_check_limits (T : Nat → FD) (J : HX) : pg.run T J ⟨nm_check_limits, defScope st_check_limits, defBody st_check_limits⟩ = P_check_limits := by rfl
theorem U_check_limits (k : Nat) : pg.tbl (k + 1) 13 = P_check_limits := E_check_limits _ _
theorem E_check_game (T : Nat → FD) (J : HX) : pg.run T J ⟨nm_check_game, defScope st_check_game, defBody st_check_game⟩ = P_check_game (T 7) (T 12) (T 11) (T 5) := by rfl
theorem U_check_game (k : Nat) : pg.tbl (k + 1) 14 = P_check_game (pg.tbl k 7) (pg.tbl k 12) (pg.tbl k 11) (pg.tbl k 5) := E_check_game _ _
theorem E_copied_kinds (T : Nat → FD) (J : HX) : pg.run T J ⟨nm_copied_kinds, defScope st_copied_kinds, defBody st_copied_kinds⟩ = P_copied_kinds := by rfl
theorem U_copied_kinds (k : Nat) : pg.tbl (k + 1) 15 = P_copied_kinds := E_copied_kinds _ _
theorem E_copied_need (T : Nat → FD) (J : HX) : pg.run T J ⟨nm_copied_need, defScope st_copied_need, defBody st_copied_need⟩ = P_copied_need := by rfl
theorem U_copied_need (k : Nat) : pg.tbl (k + 1) 16 = P_copied_need := E_copied_need _ _
theorem E_profiles (T : Nat → FD) (J : HX) : pg.run T J ⟨nm_profiles, defScope st_profiles, defBody st_profiles⟩ = P_profiles := by rfl
theorem U_profiles (k : Nat) : pg.tbl (k + 1) 17 = P_profiles := E_profiles _ _
theorem E_profile_number (T : Nat → FD) (J : HX) : pg.run T J ⟨nm_profile_number, defScope st_profile_number, defBody st_profile_number⟩ = P_profile_number (T 8) := by rfl
theorem U_profile_number (k : Nat) : pg.tbl (k + 1) 18 = P_profile_number (pg.tbl k 8) := E_profile_number _ _
theorem E_with_kind (T : Nat → FD) (J : HX) : pg.run T J ⟨nm_with_kind, defScope st_with_kind, defBody st_with_kind⟩ = P_with_kind := by rfl
theorem U_with_kind (k : Nat) : pg.tbl (k + 1) 19 = P_with_kind := E_with_kind _ _
theorem E_profile_weight (T : Nat → FD) (J : HX) : pg.run T J ⟨nm_profile_weight, defScope st_profile_weight, defBody st_profile_weight⟩ = P_profile_weight (T 3) (T 18) := by rfl
theorem U_profile_weight (k : Nat) : pg.tbl (k + 1) 20 = P_profile_weight (pg.tbl k 3) (pg.tbl k 18) := E_profile_weight _ _
theorem E__law_draws (T : Nat → FD) (J : HX) : pg.run T J ⟨nm__law_draws, defScope st__law_draws, defBody st__law_draws⟩ = P__law_draws := by rfl
theorem U__law_draws (k : Nat) : pg.tbl (k + 1) 21 = P__law_draws := E__law_draws _ _
theorem E__law_take (T : Nat → FD) (J : HX) : pg.run T J ⟨nm__law_take, defScope st__law_take, defBody st__law_take⟩ = P__law_take := by rfl
theorem U__law_take (k : Nat) : pg.tbl (k + 1) 22 = P__law_take := E__law_take _ _
theorem E__law_names (T : Nat → FD) (J : HX) : pg.run T J ⟨nm__law_names, defScope st__law_names, defBody st__law_names⟩ = P__law_names (T 22) := by rfl
theorem U__law_names (k : Nat) : pg.tbl (k + 1) 23 = P__law_names (pg.tbl k 22) := E__law_names _ _
theorem E__law_make (T : Nat → FD) (J : HX) : pg.run T J ⟨nm__law_make, defScope st__law_make, defBody st__law_make⟩ = P__law_make := by rfl
theorem U__law_make (k : Nat) : pg.tbl (k + 1) 24 = P__law_make := E__law_make _ _
theorem E__law_times (T : Nat → FD) (J : HX) : pg.run T J ⟨nm__law_times, defScope st__law_times, defBody st__law_times⟩ = P__law_times_3 (T 24) := by rfl
theorem U__law_times (k : Nat) : pg.tbl (k + 1) 25 = P__law_times_3 (pg.tbl k 24) := E__law_times _ _
theorem E__law_fraction (T : Nat → FD) (J : HX) : pg.run T J ⟨nm__law_fraction, defScope st__law_fraction, defBody st__law_fraction⟩ = P__law_fraction_2 (T 24) (T 22) := by rfl
theorem U__law_fraction (k : Nat) : pg.tbl (k + 1) 26 = P__law_fraction_2 (pg.tbl k 24) (pg.tbl k 22) := E__law_fraction _ _
theorem E__law_kinds (T : Nat → FD) (J : HX) : pg.run T J ⟨nm__law_kinds, defScope st__law_kinds, defBody st__law_kinds⟩ = P__law_kinds (T 26) (T 23) (T 22) := by rfl
theorem U__law_kinds (k : Nat) : pg.tbl (k + 1) 27 = P__law_kinds (pg.tbl k 26) (pg.tbl k 23) (pg.tbl k 22) := E__law_kinds _ _
theorem E__law_swap (T : Nat → FD) (J : HX) : pg.run T J ⟨nm__law_swap, defScope st__law_swap, defBody st__law_swap⟩ = P__law_swap (T 22) := by rfl
theorem U__law_swap (k : Nat) : pg.tbl (k + 1) 28 = P__law_swap (pg.tbl k 22) := E__law_swap _ _
theorem E__law_needs (T : Nat → FD) (J : HX) : pg.run T J ⟨nm__law_needs, defScope st__law_needs, defBody st__law_needs⟩ = P__law_needs (T 26) (T 28) (T 22) := by rfl
theorem U__law_needs (k : Nat) : pg.tbl (k + 1) 29 = P__law_needs (pg.tbl k 26) (pg.tbl k 28) (pg.tbl k 22) := E__law_needs _ _
theorem E__law_game (T : Nat → FD) (J : HX) : pg.run T J ⟨nm__law_game, defScope st__law_game, defBody st__law_game⟩ = P__law_game (T 27) (T 23) (T 29) (T 22) := by rfl
theorem U__law_game (k : Nat) : pg.tbl (k + 1) 30 = P__law_game (pg.tbl k 27) (pg.tbl k 23) (pg.tbl k 29) (pg.tbl k 22) := E__law_game _ _
theorem E__law_copy_agents (T : Nat → FD) (J : HX) : pg.run T J ⟨nm__law_copy_agents, defScope st__law_copy_agents, defBody st__law_copy_agents⟩ = P__law_copy_agents := by rfl
theorem U__law_copy_agents (k : Nat) : pg.tbl (k + 1) 31 = P__law_copy_agents := E__law_copy_agents _ _
theorem E__law_copy_needs (T : Nat → FD) (J : HX) : pg.run T J ⟨nm__law_copy_needs, defScope st__law_copy_needs, defBody st__law_copy_needs⟩ = P__law_copy_needs := by rfl
theorem U__law_copy_needs (k : Nat) : pg.tbl (k + 1) 32 = P__law_copy_needs := E__law_copy_needs _ _
theorem E__law_made (T : Nat → FD) (J : HX) : pg.run T J ⟨nm__law_made, defScope st__law_made, defBody st__law_made⟩ = P__law_made_2 (T 38) (T 31) (T 32) := by rfl
theorem U__law_made (k : Nat) : pg.tbl (k + 1) 33 = P__law_made_2 (pg.tbl k 38) (pg.tbl k 31) (pg.tbl k 32) := E__law_made _ _
theorem E__law_profiles (T : Nat → FD) (J : HX) : pg.run T J ⟨nm__law_profiles, defScope st__law_profiles, defBody st__law_profiles⟩ = P__law_profiles := by rfl
theorem U__law_profiles (k : Nat) : pg.tbl (k + 1) 34 = P__law_profiles := E__law_profiles _ _
theorem E__law_same (T : Nat → FD) (J : HX) : pg.run T J ⟨nm__law_same, defScope st__law_same, defBody st__law_same⟩ = P__law_same_2 (T 35) := by rfl
theorem U__law_same (k : Nat) : pg.tbl (k + 1) 35 = P__law_same_2 (pg.tbl k 35) := E__law_same _ _
theorem EH__law_same (J : HX) : pg.runH J ⟨nm__law_same, defScope st__law_same, defBody st__law_same⟩ = P__law_same_2 (J.1 35) := by rfl
theorem UH__law_same (k : Nat) : (pg.hx (k + 1)).1 35 = P__law_same_2 ((pg.hx k).1 35) := EH__law_same _
theorem E__law_refused (T : Nat → FD) (J : HX) : pg.run T J ⟨nm__law_refused, defScope st__law_refused, defBody st__law_refused⟩ = P__law_refused_15 subT isiT xaT (T 18) (T 20) (J.1 35) := by rfl
theorem U__law_refused (k : Nat) : pg.tbl (k + 1) 36 = P__law_refused_15 subT isiT xaT (pg.tbl k 18) (pg.tbl k 20) ((pg.hx k).1 35) := E__law_refused _ _
theorem E_law (T : Nat → FD) (J : HX) : pg.run T J ⟨nm_law, defScope st_law, defBody st_law⟩ = P_law_33 (T 21) (T 30) (T 33) (T 34) (T 36) (T 35) (T 22) (T 25) (T 18) (T 20) (T 17) (T 19) := by rfl
theorem U_law (k : Nat) : pg.tbl (k + 1) 37 = P_law_33 (pg.tbl k 21) (pg.tbl k 30) (pg.tbl k 33) (pg.tbl k 34) (pg.tbl k 36) (pg.tbl k 35) (pg.tbl k 22) (pg.tbl k 25) (pg.tbl k 18) (pg.tbl k 20) (pg.tbl k 17) (pg.tbl k 19) := E_law _ _
theorem E_Game___init__ (T : Nat → FD) (J : HX) : pg.run T J ⟨nm_Game___init__, defScope st_Game___init__, defBody st_Game___init__⟩ = P_Game___init__ (T 14) (T 13) (T 15) (T 16) := by rfl
theorem U_Game___init__ (k : Nat) : pg.tbl (k + 1) 38 = P_Game___init__ (pg.tbl k 14) (pg.tbl k 13) (pg.tbl k 15) (pg.tbl k 16) := E_Game___init__ _ _
end Lw
namespace Lw
open PySem L2 Mn
theorem t_Draws__law_draws (k : Nat) : Draws (pg.tbl (k + 1) 21) := by rw [U__law_draws]; exact draws_ok 
theorem t_LMake__law_make (k : Nat) : LMake (pg.tbl (k + 1) 24) := by rw [U__law_make]; exact lmake_ok 
theorem t_Take__law_take (k : Nat) : Take (pg.tbl (k + 1) 22) := by rw [U__law_take]; exact take_ok 
theorem t_LFr__law_fraction (k : Nat) : LFr (pg.tbl (k + 2) 26) := by rw [U__law_fraction]; exact lfr_ok (t_LMake__law_make (k + 0)) (t_Take__law_take (k + 0))
theorem t_LNames__law_names (k : Nat) : LNames (pg.tbl (k + 2) 23) := by rw [U__law_names]; exact lnames_ok (t_Take__law_take (k + 0))
theorem t_LKinds__law_kinds (k : Nat) : LKinds (pg.tbl (k + 3) 27) := by rw [U__law_kinds]; exact lkinds_ok (t_LFr__law_fraction (k + 0)) (t_LNames__law_names (k + 0)) (t_Take__law_take (k + 1))
theorem t_LSwap__law_swap (k : Nat) : LSwap (pg.tbl (k + 2) 28) := by rw [U__law_swap]; exact lswap_ok (t_Take__law_take (k + 0))
theorem t_LNeeds__law_needs (k : Nat) : LNeeds (pg.tbl (k + 3) 29) := by rw [U__law_needs]; exact lneeds_ok (t_LFr__law_fraction (k + 0)) (t_LSwap__law_swap (k + 0)) (t_Take__law_take (k + 1))
theorem t_LGameO__law_game (k : Nat) : LGameO (pg.tbl (k + 4) 30) := by rw [U__law_game]; exact lgameO_ok (t_LKinds__law_kinds (k + 0)) (t_LNames__law_names (k + 1)) (t_LNeeds__law_needs (k + 0)) (t_Take__law_take (k + 2))
theorem t_IsName_is_name (k : Nat) : IsName (pg.tbl (k + 1) 6) := by rw [U_is_name]; exact isname_ok 
theorem t_AreNames_are_names (k : Nat) : AreNames (pg.tbl (k + 2) 7) := by rw [U_are_names]; exact arenames_ok (t_IsName_is_name (k + 0))
theorem t_NotEx_is_excluded (k : Nat) : NotEx (pg.tbl (k + 1) 12) := by rw [U_is_excluded]; exact notex_ok 
theorem t_IsI_is_integer (k : Nat) : IsI (pg.tbl (k + 1) 0) := by rw [U_is_integer]; exact isi_ok 
theorem t_IsIx_is_index (k : Nat) : IsIx (pg.tbl (k + 2) 8) := by rw [U_is_index]; exact isix_ok (t_IsI_is_integer (k + 0))
theorem t_IsCh_is_choice (k : Nat) : IsCh (pg.tbl (k + 3) 10) := by rw [U_is_choice]; exact isch_ok (t_IsIx_is_index (k + 0))
theorem t_IsR_is_ratio (k : Nat) : IsR (pg.tbl (k + 2) 1) := by rw [U_is_ratio]; exact isr_ok (t_IsI_is_integer (k + 0))
theorem t_IsSw_is_swap (k : Nat) : IsSw (pg.tbl (k + 3) 9) := by rw [U_is_swap]; exact issw_ok (t_IsIx_is_index (k + 0))
theorem t_Cmp_compare (k : Nat) : Cmp (pg.tbl (k + 1) 4) := by rw [U_compare]; exact compare_ok 
theorem t_Sign_sign (k : Nat) : Sign (pg.tbl (k + 2) 5) := by rw [U_sign]; exact sign_ok (t_Cmp_compare (k + 0))
theorem t_IsNeed_is_need (k : Nat) : IsNeed (pg.tbl (k + 4) 11) := by rw [U_is_need]; exact isneed_ok (t_IsCh_is_choice (k + 0)) (t_IsIx_is_index (k + 1)) (t_IsR_is_ratio (k + 1)) (t_IsSw_is_swap (k + 0)) (t_Sign_sign (k + 1))
theorem t_CkGame_check_game (k : Nat) : CkGame (pg.tbl (k + 5) 14) := by rw [U_check_game]; exact ckgame_ok (t_AreNames_are_names (k + 2)) (t_NotEx_is_excluded (k + 3)) (t_IsNeed_is_need (k + 0)) (t_Sign_sign (k + 2))
theorem t_CkLim_check_limits (k : Nat) : CkLim (pg.tbl (k + 1) 13) := by rw [U_check_limits]; exact cklim_ok 
theorem t_CpKinds_copied_kinds (k : Nat) : CpKinds (pg.tbl (k + 1) 15) := by rw [U_copied_kinds]; exact cpkinds_ok 
theorem t_CpNeed_copied_need (k : Nat) : CpNeed (pg.tbl (k + 1) 16) := by rw [U_copied_need]; exact cpneed_ok 
theorem t_InitG_Game___init__ (k : Nat) : InitG (pg.tbl (k + 6) 38) := by rw [U_Game___init__]; exact initG_ok (t_CkGame_check_game (k + 0)) (t_CkLim_check_limits (k + 4)) (t_CpKinds_copied_kinds (k + 4)) (t_CpNeed_copied_need (k + 4))
theorem t_LCpA__law_copy_agents (k : Nat) : LCpA (pg.tbl (k + 1) 31) := by rw [U__law_copy_agents]; exact lcpa_ok 
theorem t_LCpN__law_copy_needs (k : Nat) : LCpN (pg.tbl (k + 1) 32) := by rw [U__law_copy_needs]; exact lcpn_ok 
theorem t_LMadeG__law_made (k : Nat) : LMadeG (pg.tbl (k + 7) 33) := by rw [U__law_made]; exact lmadeg_ok (t_InitG_Game___init__ (k + 0)) (t_LCpA__law_copy_agents (k + 5)) (t_LCpN__law_copy_needs (k + 5))
theorem t_LProfsA__law_profiles (k : Nat) : LProfsA (pg.tbl (k + 1) 34) := by rw [U__law_profiles]; exact lprofsA_ok 
theorem t_IxB_is_index (k : Nat) : IxB (pg.tbl (k + 2) 8) := by rw [U_is_index]; exact ixb_ok (t_IsI_is_integer (k + 0))
theorem t_PNumB_profile_number (k : Nat) : PNumB (pg.tbl (k + 3) 18) := by rw [U_profile_number]; exact pnumb_ok (t_IxB_is_index (k + 0))
theorem t_PProfWB_profile_weight (k : Nat) : PProfWB (pg.tbl (k + 4) 20) := by rw [U_profile_weight]; exact pprofwb_ok (t_PNumB_profile_number (k + 0))
theorem t_sameZH : ∀ (j k : Nat), SameZ j ((pg.hx (k + j + 1)).1 35)
  | 0, k => by rw [UH__law_same]; exact sameZ_ok 0 (fun j h => by omega)
  | j + 1, k => by rw [UH__law_same]; exact sameZ_ok (j + 1) (fun i h => by cases h; exact t_sameZH j k)
theorem t_sameZH_1 (k : Nat) : SameZ 1 ((pg.hx (k + 2)).1 35) := t_sameZH 1 k
theorem t_LRf19_subT_isiT_xaT__law_refused (k : Nat) : LRf19 subT isiT xaT (pg.tbl (k + 5) 36) := by rw [U__law_refused]; exact lrf19_ok (t_PNumB_profile_number (k + 1)) (t_PProfWB_profile_weight (k + 0)) (t_sameZH_1 (k + 2))
theorem t_sameZ : ∀ (j k : Nat), SameZ j (pg.tbl (k + j + 1) 35)
  | 0, k => by rw [U__law_same]; exact sameZ_ok 0 (fun j h => by omega)
  | j + 1, k => by rw [U__law_same]; exact sameZ_ok (j + 1) (fun i h => by cases h; exact t_sameZ j k)
theorem t_sameZ_2 (k : Nat) : SameZ 2 (pg.tbl (k + 3) 35) := t_sameZ 2 k
theorem t_LMulD__law_times (k : Nat) : LMulD (pg.tbl (k + 2) 25) := by rw [U__law_times]; exact lmuld_ok (t_LMake__law_make (k + 0))
theorem t_PNum_profile_number (k : Nat) : PNum (pg.tbl (k + 3) 18) := by rw [U_profile_number]; exact pnum_ok (t_IsIx_is_index (k + 0))
theorem t_Make_make (k : Nat) : Make (pg.tbl (k + 1) 2) := by rw [U_make]; exact make_ok 
theorem t_Mul_multiply (k : Nat) : Mul (pg.tbl (k + 2) 3) := by rw [U_multiply]; exact multiply_ok (t_Make_make (k + 0))
theorem t_PProfW_profile_weight (k : Nat) : PProfW (pg.tbl (k + 4) 20) := by rw [U_profile_weight]; exact pprofw_ok (t_Mul_multiply (k + 1)) (t_PNum_profile_number (k + 0))
theorem t_Profs_profiles (k : Nat) : Profs (pg.tbl (k + 1) 17) := by rw [U_profiles]; exact profs_ok 
theorem t_ProfsO_profiles (k : Nat) : ProfsO (pg.tbl (k + 1) 17) := by rw [U_profiles]; exact profsO_ok 
theorem t_WithK_with_kind (k : Nat) : WithK (pg.tbl (k + 1) 19) := by rw [U_with_kind]; exact pwith_ok 
theorem law_true (ns : List Int) (h1 : ns.length ≤ 63) (h2 : ∀ z ∈ ns, Builtin.Int.intBits z ≤ 1048576) : ∃ h, pg.tbl 8 37 [.ref 0] [.frz (ns.map .int)] = .ok (.bl true) h := by
  rw [U_law]
  exact law_of (law19_ok (t_Draws__law_draws 6) (t_LGameO__law_game 3) (t_LMadeG__law_made 0) (t_LProfsA__law_profiles 6) (t_LRf19_subT_isiT_xaT__law_refused 2) (t_sameZ_2 4) (t_Take__law_take 6) (t_LMulD__law_times 5) (t_PNum_profile_number 4) (t_PProfW_profile_weight 3) (t_Profs_profiles 6) (t_ProfsO_profiles 6) (t_WithK_with_kind 6) rfl rfl rfl rfl ns h1 fun z hz => bits_of (h2 z hz))
end Lw
namespace Lw
open PySem L2 Mn
def cvL (C43 C0 C2 C9 C11 C16 : Addr) : Nat → Value | 43 => .ref C43 | 0 => .ref C0 | 2 => .ref C2 | 9 => .ref C9 | 11 => .ref C11 | 16 => .ref C16 | 100 => .type "ValueError" | _ => .none
theorem pg_mk {K : PySem.W.Frag} {h : Heap} {mg : Str → Option Value} (X : K.In h) (G : h.Ns mainGlobals mg)
    {f0 : Addr} {od0 an0 : Option Addr} {sl0 : Array (Option Value)} {oc0 kV0 dc0 pm0 cd0 ct0 : Value}
    {f1 : Addr} {od1 an1 : Option Addr} {sl1 : Array (Option Value)} {oc1 kV1 dc1 pm1 cd1 ct1 : Value}
    {f2 : Addr} {od2 an2 : Option Addr} {sl2 : Array (Option Value)} {oc2 kV2 dc2 pm2 cd2 ct2 : Value}
    {T2 : Addr} {oT2 : Value} {dT2 : Option Addr} {nT2 : Nat} {sT2 : Array (Option Value)} {tT2_0 : Tok}
    {f3 : Addr} {od3 an3 : Option Addr} {sl3 : Array (Option Value)} {oc3 kV3 dc3 pm3 cd3 ct3 : Value}
    {f4 : Addr} {od4 an4 : Option Addr} {sl4 : Array (Option Value)} {oc4 kV4 dc4 pm4 cd4 ct4 : Value}
    {f5 : Addr} {od5 an5 : Option Addr} {sl5 : Array (Option Value)} {oc5 kV5 dc5 pm5 cd5 ct5 : Value}
    {f6 : Addr} {od6 an6 : Option Addr} {sl6 : Array (Option Value)} {oc6 kV6 dc6 pm6 cd6 ct6 : Value}
    {f7 : Addr} {od7 an7 : Option Addr} {sl7 : Array (Option Value)} {oc7 kV7 dc7 pm7 cd7 ct7 : Value}
    {f8 : Addr} {od8 an8 : Option Addr} {sl8 : Array (Option Value)} {oc8 kV8 dc8 pm8 cd8 ct8 : Value}
    {f9 : Addr} {od9 an9 : Option Addr} {sl9 : Array (Option Value)} {oc9 kV9 dc9 pm9 cd9 ct9 : Value}
    {f10 : Addr} {od10 an10 : Option Addr} {sl10 : Array (Option Value)} {oc10 kV10 dc10 pm10 cd10 ct10 : Value}
    {f11 : Addr} {od11 an11 : Option Addr} {sl11 : Array (Option Value)} {oc11 kV11 dc11 pm11 cd11 ct11 : Value}
    {f12 : Addr} {od12 an12 : Option Addr} {sl12 : Array (Option Value)} {oc12 kV12 dc12 pm12 cd12 ct12 : Value}
    {f13 : Addr} {od13 an13 : Option Addr} {sl13 : Array (Option Value)} {oc13 kV13 dc13 pm13 cd13 ct13 : Value}
    {f14 : Addr} {od14 an14 : Option Addr} {sl14 : Array (Option Value)} {oc14 kV14 dc14 pm14 cd14 ct14 : Value}
    {f15 : Addr} {od15 an15 : Option Addr} {sl15 : Array (Option Value)} {oc15 kV15 dc15 pm15 cd15 ct15 : Value}
    {f16 : Addr} {od16 an16 : Option Addr} {sl16 : Array (Option Value)} {oc16 kV16 dc16 pm16 cd16 ct16 : Value}
    {f17 : Addr} {od17 an17 : Option Addr} {sl17 : Array (Option Value)} {oc17 kV17 dc17 pm17 cd17 ct17 : Value}
    {f18 : Addr} {od18 an18 : Option Addr} {sl18 : Array (Option Value)} {oc18 kV18 dc18 pm18 cd18 ct18 : Value}
    {f19 : Addr} {od19 an19 : Option Addr} {sl19 : Array (Option Value)} {oc19 kV19 dc19 pm19 cd19 ct19 : Value}
    {f20 : Addr} {od20 an20 : Option Addr} {sl20 : Array (Option Value)} {oc20 kV20 dc20 pm20 cd20 ct20 : Value}
    {f21 : Addr} {od21 an21 : Option Addr} {sl21 : Array (Option Value)} {oc21 kV21 dc21 pm21 cd21 ct21 : Value}
    {f22 : Addr} {od22 an22 : Option Addr} {sl22 : Array (Option Value)} {oc22 kV22 dc22 pm22 cd22 ct22 : Value}
    {f23 : Addr} {od23 an23 : Option Addr} {sl23 : Array (Option Value)} {oc23 kV23 dc23 pm23 cd23 ct23 : Value}
    {f24 : Addr} {od24 an24 : Option Addr} {sl24 : Array (Option Value)} {oc24 kV24 dc24 pm24 cd24 ct24 : Value}
    {f25 : Addr} {od25 an25 : Option Addr} {sl25 : Array (Option Value)} {oc25 kV25 dc25 pm25 cd25 ct25 : Value}
    {f26 : Addr} {od26 an26 : Option Addr} {sl26 : Array (Option Value)} {oc26 kV26 dc26 pm26 cd26 ct26 : Value}
    {f27 : Addr} {od27 an27 : Option Addr} {sl27 : Array (Option Value)} {oc27 kV27 dc27 pm27 cd27 ct27 : Value}
    {f28 : Addr} {od28 an28 : Option Addr} {sl28 : Array (Option Value)} {oc28 kV28 dc28 pm28 cd28 ct28 : Value}
    {f29 : Addr} {od29 an29 : Option Addr} {sl29 : Array (Option Value)} {oc29 kV29 dc29 pm29 cd29 ct29 : Value}
    {f30 : Addr} {od30 an30 : Option Addr} {sl30 : Array (Option Value)} {oc30 kV30 dc30 pm30 cd30 ct30 : Value}
    {f31 : Addr} {od31 an31 : Option Addr} {sl31 : Array (Option Value)} {oc31 kV31 dc31 pm31 cd31 ct31 : Value}
    {f32 : Addr} {od32 an32 : Option Addr} {sl32 : Array (Option Value)} {oc32 kV32 dc32 pm32 cd32 ct32 : Value}
    {f33 : Addr} {od33 an33 : Option Addr} {sl33 : Array (Option Value)} {oc33 kV33 dc33 pm33 cd33 ct33 : Value}
    {f34 : Addr} {od34 an34 : Option Addr} {sl34 : Array (Option Value)} {oc34 kV34 dc34 pm34 cd34 ct34 : Value}
    {f35 : Addr} {od35 an35 : Option Addr} {sl35 : Array (Option Value)} {oc35 kV35 dc35 pm35 cd35 ct35 : Value}
    {f36 : Addr} {od36 an36 : Option Addr} {sl36 : Array (Option Value)} {oc36 kV36 dc36 pm36 cd36 ct36 : Value}
    {f37 : Addr} {od37 an37 : Option Addr} {sl37 : Array (Option Value)} {oc37 kV37 dc37 pm37 cd37 ct37 : Value}
    {C0 : Addr}
    {C2 : Addr}
    {N2 xf2 : Addr} {xn2 xq2 : Str} {xb2 xm2 xs2 : List Value} {xl2 : List Str} {xab2 : Bool} {xco2 : Option Bool} {xd2 xo2 xan2 : Option Addr} {x0k2 x1k2 x2k2 x3k2 x5k2 : Option Value} {xoc2 xkV2 xdc2 xpm2 xcd2 xct2 : Value} {xsl2 : Array (Option Value)}
    {C9 : Addr}
    {N9 xf9 : Addr} {xn9 xq9 : Str} {xb9 xm9 xs9 : List Value} {xl9 : List Str} {xab9 : Bool} {xco9 : Option Bool} {xd9 xo9 xan9 : Option Addr} {x0k9 x1k9 x2k9 x3k9 x5k9 : Option Value} {xoc9 xkV9 xdc9 xpm9 xcd9 xct9 : Value} {xsl9 : Array (Option Value)}
    {C11 : Addr}
    {N11 xf11 : Addr} {xn11 xq11 : Str} {xb11 xm11 xs11 : List Value} {xl11 : List Str} {xab11 : Bool} {xco11 : Option Bool} {xd11 xo11 xan11 : Option Addr} {x0k11 x1k11 x2k11 x3k11 x5k11 : Option Value} {xoc11 xkV11 xdc11 xpm11 xcd11 xct11 : Value} {xsl11 : Array (Option Value)}
    {C16 : Addr}
    {C43 : Addr}
    {f38 : Addr} {od38 an38 : Option Addr} {sl38 : Array (Option Value)} {oc38 kV38 dc38 pm38 cd38 ct38 : Value}
    {V_ZERO : Addr} {dV_ZERO : Option Addr} {nV_ZERO : Nat} {sV_ZERO : Array (Option Value)} {tV_ZERO_0 : Tok} {tV_ZERO_1 : Tok}
    {V_ONE : Addr} {dV_ONE : Option Addr} {nV_ONE : Nat} {sV_ONE : Array (Option Value)} {tV_ONE_0 : Tok} {tV_ONE_1 : Tok}
    {tV_MOST_AGENTS : Tok}
    {tV_MOST_KINDS : Tok}
    {tV_MOST_OUTCOMES : Tok}
    {tV_MOST_NEEDS : Tok}
    {tV_MOST_PROFILES : Tok}
    {V_AIMS : Addr} {dV_AIMS : Option Addr} {nV_AIMS : Nat} {sV_AIMS : Array (Option Value)} {tV_AIMS_0 : Tok} {tV_AIMS_1 : Tok} {tV_AIMS_2 : Tok}
    {V_SINGLE_NEEDS : Addr} {dV_SINGLE_NEEDS : Option Addr} {nV_SINGLE_NEEDS : Nat} {sV_SINGLE_NEEDS : Array (Option Value)} {tV_SINGLE_NEEDS_0 : Tok} {tV_SINGLE_NEEDS_1 : Tok} {tV_SINGLE_NEEDS_2 : Tok} {tV_SINGLE_NEEDS_3 : Tok}
    {tV_LETTERS : Tok}
    (a0 : PySem.W.nsIn K mainGlobals "is_integer" = some (some (.ref f0)))
    (l0 : K.lookup f0 = some ⟨oc0, od0, .func (PySem.W.fnOf "is_integer" "is_integer" (defArgs st_is_integer) (defBody st_is_integer) (defScope st_is_integer) .none kV0 dc0 pm0 an0 cd0 ct0), sl0⟩)
    (c0 : PySem.W.codeIn K cd0 "is_integer" = true)
    (k0 : PySem.W.keepIn K (.ref f0) = true)
    (a1 : PySem.W.nsIn K mainGlobals "is_ratio" = some (some (.ref f1)))
    (l1 : K.lookup f1 = some ⟨oc1, od1, .func (PySem.W.fnOf "is_ratio" "is_ratio" (defArgs st_is_ratio) (defBody st_is_ratio) (defScope st_is_ratio) .none kV1 dc1 pm1 an1 cd1 ct1), sl1⟩)
    (c1 : PySem.W.codeIn K cd1 "is_ratio" = true)
    (k1 : PySem.W.keepIn K (.ref f1) = true)
    (a2 : PySem.W.nsIn K mainGlobals "make" = some (some (.ref f2)))
    (l2 : K.lookup f2 = some ⟨oc2, od2, .func (PySem.W.fnOf "make" "make" (defArgs st_make) (defBody st_make) (defScope st_make) (.ref T2) kV2 dc2 pm2 an2 cd2 ct2), sl2⟩)
    (c2 : PySem.W.codeIn K cd2 "make" = true)
    (k2 : PySem.W.keepIn K (.ref f2) = true)
    (lT2 : K.lookup T2 = some ⟨oT2, dT2, .seq #[.int 1 tT2_0] nT2, sT2⟩)
    (a3 : PySem.W.nsIn K mainGlobals "multiply" = some (some (.ref f3)))
    (l3 : K.lookup f3 = some ⟨oc3, od3, .func (PySem.W.fnOf "multiply" "multiply" (defArgs st_multiply) (defBody st_multiply) (defScope st_multiply) .none kV3 dc3 pm3 an3 cd3 ct3), sl3⟩)
    (c3 : PySem.W.codeIn K cd3 "multiply" = true)
    (k3 : PySem.W.keepIn K (.ref f3) = true)
    (a4 : PySem.W.nsIn K mainGlobals "compare" = some (some (.ref f4)))
    (l4 : K.lookup f4 = some ⟨oc4, od4, .func (PySem.W.fnOf "compare" "compare" (defArgs st_compare) (defBody st_compare) (defScope st_compare) .none kV4 dc4 pm4 an4 cd4 ct4), sl4⟩)
    (c4 : PySem.W.codeIn K cd4 "compare" = true)
    (k4 : PySem.W.keepIn K (.ref f4) = true)
    (a5 : PySem.W.nsIn K mainGlobals "sign" = some (some (.ref f5)))
    (l5 : K.lookup f5 = some ⟨oc5, od5, .func (PySem.W.fnOf "sign" "sign" (defArgs st_sign) (defBody st_sign) (defScope st_sign) .none kV5 dc5 pm5 an5 cd5 ct5), sl5⟩)
    (c5 : PySem.W.codeIn K cd5 "sign" = true)
    (k5 : PySem.W.keepIn K (.ref f5) = true)
    (a6 : PySem.W.nsIn K mainGlobals "is_name" = some (some (.ref f6)))
    (l6 : K.lookup f6 = some ⟨oc6, od6, .func (PySem.W.fnOf "is_name" "is_name" (defArgs st_is_name) (defBody st_is_name) (defScope st_is_name) .none kV6 dc6 pm6 an6 cd6 ct6), sl6⟩)
    (c6 : PySem.W.codeIn K cd6 "is_name" = true)
    (k6 : PySem.W.keepIn K (.ref f6) = true)
    (a7 : PySem.W.nsIn K mainGlobals "are_names" = some (some (.ref f7)))
    (l7 : K.lookup f7 = some ⟨oc7, od7, .func (PySem.W.fnOf "are_names" "are_names" (defArgs st_are_names) (defBody st_are_names) (defScope st_are_names) .none kV7 dc7 pm7 an7 cd7 ct7), sl7⟩)
    (c7 : PySem.W.codeIn K cd7 "are_names" = true)
    (k7 : PySem.W.keepIn K (.ref f7) = true)
    (a8 : PySem.W.nsIn K mainGlobals "is_index" = some (some (.ref f8)))
    (l8 : K.lookup f8 = some ⟨oc8, od8, .func (PySem.W.fnOf "is_index" "is_index" (defArgs st_is_index) (defBody st_is_index) (defScope st_is_index) .none kV8 dc8 pm8 an8 cd8 ct8), sl8⟩)
    (c8 : PySem.W.codeIn K cd8 "is_index" = true)
    (k8 : PySem.W.keepIn K (.ref f8) = true)
    (a9 : PySem.W.nsIn K mainGlobals "is_swap" = some (some (.ref f9)))
    (l9 : K.lookup f9 = some ⟨oc9, od9, .func (PySem.W.fnOf "is_swap" "is_swap" (defArgs st_is_swap) (defBody st_is_swap) (defScope st_is_swap) .none kV9 dc9 pm9 an9 cd9 ct9), sl9⟩)
    (c9 : PySem.W.codeIn K cd9 "is_swap" = true)
    (k9 : PySem.W.keepIn K (.ref f9) = true)
    (a10 : PySem.W.nsIn K mainGlobals "is_choice" = some (some (.ref f10)))
    (l10 : K.lookup f10 = some ⟨oc10, od10, .func (PySem.W.fnOf "is_choice" "is_choice" (defArgs st_is_choice) (defBody st_is_choice) (defScope st_is_choice) .none kV10 dc10 pm10 an10 cd10 ct10), sl10⟩)
    (c10 : PySem.W.codeIn K cd10 "is_choice" = true)
    (k10 : PySem.W.keepIn K (.ref f10) = true)
    (a11 : PySem.W.nsIn K mainGlobals "is_need" = some (some (.ref f11)))
    (l11 : K.lookup f11 = some ⟨oc11, od11, .func (PySem.W.fnOf "is_need" "is_need" (defArgs st_is_need) (defBody st_is_need) (defScope st_is_need) .none kV11 dc11 pm11 an11 cd11 ct11), sl11⟩)
    (c11 : PySem.W.codeIn K cd11 "is_need" = true)
    (k11 : PySem.W.keepIn K (.ref f11) = true)
    (a12 : PySem.W.nsIn K mainGlobals "is_excluded" = some (some (.ref f12)))
    (l12 : K.lookup f12 = some ⟨oc12, od12, .func (PySem.W.fnOf "is_excluded" "is_excluded" (defArgs st_is_excluded) (defBody st_is_excluded) (defScope st_is_excluded) .none kV12 dc12 pm12 an12 cd12 ct12), sl12⟩)
    (c12 : PySem.W.codeIn K cd12 "is_excluded" = true)
    (k12 : PySem.W.keepIn K (.ref f12) = true)
    (a13 : PySem.W.nsIn K mainGlobals "check_limits" = some (some (.ref f13)))
    (l13 : K.lookup f13 = some ⟨oc13, od13, .func (PySem.W.fnOf "check_limits" "check_limits" (defArgs st_check_limits) (defBody st_check_limits) (defScope st_check_limits) .none kV13 dc13 pm13 an13 cd13 ct13), sl13⟩)
    (c13 : PySem.W.codeIn K cd13 "check_limits" = true)
    (k13 : PySem.W.keepIn K (.ref f13) = true)
    (a14 : PySem.W.nsIn K mainGlobals "check_game" = some (some (.ref f14)))
    (l14 : K.lookup f14 = some ⟨oc14, od14, .func (PySem.W.fnOf "check_game" "check_game" (defArgs st_check_game) (defBody st_check_game) (defScope st_check_game) .none kV14 dc14 pm14 an14 cd14 ct14), sl14⟩)
    (c14 : PySem.W.codeIn K cd14 "check_game" = true)
    (k14 : PySem.W.keepIn K (.ref f14) = true)
    (a15 : PySem.W.nsIn K mainGlobals "copied_kinds" = some (some (.ref f15)))
    (l15 : K.lookup f15 = some ⟨oc15, od15, .func (PySem.W.fnOf "copied_kinds" "copied_kinds" (defArgs st_copied_kinds) (defBody st_copied_kinds) (defScope st_copied_kinds) .none kV15 dc15 pm15 an15 cd15 ct15), sl15⟩)
    (c15 : PySem.W.codeIn K cd15 "copied_kinds" = true)
    (k15 : PySem.W.keepIn K (.ref f15) = true)
    (a16 : PySem.W.nsIn K mainGlobals "copied_need" = some (some (.ref f16)))
    (l16 : K.lookup f16 = some ⟨oc16, od16, .func (PySem.W.fnOf "copied_need" "copied_need" (defArgs st_copied_need) (defBody st_copied_need) (defScope st_copied_need) .none kV16 dc16 pm16 an16 cd16 ct16), sl16⟩)
    (c16 : PySem.W.codeIn K cd16 "copied_need" = true)
    (k16 : PySem.W.keepIn K (.ref f16) = true)
    (a17 : PySem.W.nsIn K mainGlobals "profiles" = some (some (.ref f17)))
    (l17 : K.lookup f17 = some ⟨oc17, od17, .func (PySem.W.fnOf "profiles" "profiles" (defArgs st_profiles) (defBody st_profiles) (defScope st_profiles) .none kV17 dc17 pm17 an17 cd17 ct17), sl17⟩)
    (c17 : PySem.W.codeIn K cd17 "profiles" = true)
    (k17 : PySem.W.keepIn K (.ref f17) = true)
    (a18 : PySem.W.nsIn K mainGlobals "profile_number" = some (some (.ref f18)))
    (l18 : K.lookup f18 = some ⟨oc18, od18, .func (PySem.W.fnOf "profile_number" "profile_number" (defArgs st_profile_number) (defBody st_profile_number) (defScope st_profile_number) .none kV18 dc18 pm18 an18 cd18 ct18), sl18⟩)
    (c18 : PySem.W.codeIn K cd18 "profile_number" = true)
    (k18 : PySem.W.keepIn K (.ref f18) = true)
    (a19 : PySem.W.nsIn K mainGlobals "with_kind" = some (some (.ref f19)))
    (l19 : K.lookup f19 = some ⟨oc19, od19, .func (PySem.W.fnOf "with_kind" "with_kind" (defArgs st_with_kind) (defBody st_with_kind) (defScope st_with_kind) .none kV19 dc19 pm19 an19 cd19 ct19), sl19⟩)
    (c19 : PySem.W.codeIn K cd19 "with_kind" = true)
    (k19 : PySem.W.keepIn K (.ref f19) = true)
    (a20 : PySem.W.nsIn K mainGlobals "profile_weight" = some (some (.ref f20)))
    (l20 : K.lookup f20 = some ⟨oc20, od20, .func (PySem.W.fnOf "profile_weight" "profile_weight" (defArgs st_profile_weight) (defBody st_profile_weight) (defScope st_profile_weight) .none kV20 dc20 pm20 an20 cd20 ct20), sl20⟩)
    (c20 : PySem.W.codeIn K cd20 "profile_weight" = true)
    (k20 : PySem.W.keepIn K (.ref f20) = true)
    (a21 : PySem.W.nsIn K mainGlobals "_law_draws" = some (some (.ref f21)))
    (l21 : K.lookup f21 = some ⟨oc21, od21, .func (PySem.W.fnOf "_law_draws" "_law_draws" (defArgs st__law_draws) (defBody st__law_draws) (defScope st__law_draws) .none kV21 dc21 pm21 an21 cd21 ct21), sl21⟩)
    (c21 : PySem.W.codeIn K cd21 "_law_draws" = true)
    (k21 : PySem.W.keepIn K (.ref f21) = true)
    (a22 : PySem.W.nsIn K mainGlobals "_law_take" = some (some (.ref f22)))
    (l22 : K.lookup f22 = some ⟨oc22, od22, .func (PySem.W.fnOf "_law_take" "_law_take" (defArgs st__law_take) (defBody st__law_take) (defScope st__law_take) .none kV22 dc22 pm22 an22 cd22 ct22), sl22⟩)
    (c22 : PySem.W.codeIn K cd22 "_law_take" = true)
    (k22 : PySem.W.keepIn K (.ref f22) = true)
    (a23 : PySem.W.nsIn K mainGlobals "_law_names" = some (some (.ref f23)))
    (l23 : K.lookup f23 = some ⟨oc23, od23, .func (PySem.W.fnOf "_law_names" "_law_names" (defArgs st__law_names) (defBody st__law_names) (defScope st__law_names) .none kV23 dc23 pm23 an23 cd23 ct23), sl23⟩)
    (c23 : PySem.W.codeIn K cd23 "_law_names" = true)
    (k23 : PySem.W.keepIn K (.ref f23) = true)
    (a24 : PySem.W.nsIn K mainGlobals "_law_make" = some (some (.ref f24)))
    (l24 : K.lookup f24 = some ⟨oc24, od24, .func (PySem.W.fnOf "_law_make" "_law_make" (defArgs st__law_make) (defBody st__law_make) (defScope st__law_make) .none kV24 dc24 pm24 an24 cd24 ct24), sl24⟩)
    (c24 : PySem.W.codeIn K cd24 "_law_make" = true)
    (k24 : PySem.W.keepIn K (.ref f24) = true)
    (a25 : PySem.W.nsIn K mainGlobals "_law_times" = some (some (.ref f25)))
    (l25 : K.lookup f25 = some ⟨oc25, od25, .func (PySem.W.fnOf "_law_times" "_law_times" (defArgs st__law_times) (defBody st__law_times) (defScope st__law_times) .none kV25 dc25 pm25 an25 cd25 ct25), sl25⟩)
    (c25 : PySem.W.codeIn K cd25 "_law_times" = true)
    (k25 : PySem.W.keepIn K (.ref f25) = true)
    (a26 : PySem.W.nsIn K mainGlobals "_law_fraction" = some (some (.ref f26)))
    (l26 : K.lookup f26 = some ⟨oc26, od26, .func (PySem.W.fnOf "_law_fraction" "_law_fraction" (defArgs st__law_fraction) (defBody st__law_fraction) (defScope st__law_fraction) .none kV26 dc26 pm26 an26 cd26 ct26), sl26⟩)
    (c26 : PySem.W.codeIn K cd26 "_law_fraction" = true)
    (k26 : PySem.W.keepIn K (.ref f26) = true)
    (a27 : PySem.W.nsIn K mainGlobals "_law_kinds" = some (some (.ref f27)))
    (l27 : K.lookup f27 = some ⟨oc27, od27, .func (PySem.W.fnOf "_law_kinds" "_law_kinds" (defArgs st__law_kinds) (defBody st__law_kinds) (defScope st__law_kinds) .none kV27 dc27 pm27 an27 cd27 ct27), sl27⟩)
    (c27 : PySem.W.codeIn K cd27 "_law_kinds" = true)
    (k27 : PySem.W.keepIn K (.ref f27) = true)
    (a28 : PySem.W.nsIn K mainGlobals "_law_swap" = some (some (.ref f28)))
    (l28 : K.lookup f28 = some ⟨oc28, od28, .func (PySem.W.fnOf "_law_swap" "_law_swap" (defArgs st__law_swap) (defBody st__law_swap) (defScope st__law_swap) .none kV28 dc28 pm28 an28 cd28 ct28), sl28⟩)
    (c28 : PySem.W.codeIn K cd28 "_law_swap" = true)
    (k28 : PySem.W.keepIn K (.ref f28) = true)
    (a29 : PySem.W.nsIn K mainGlobals "_law_needs" = some (some (.ref f29)))
    (l29 : K.lookup f29 = some ⟨oc29, od29, .func (PySem.W.fnOf "_law_needs" "_law_needs" (defArgs st__law_needs) (defBody st__law_needs) (defScope st__law_needs) .none kV29 dc29 pm29 an29 cd29 ct29), sl29⟩)
    (c29 : PySem.W.codeIn K cd29 "_law_needs" = true)
    (k29 : PySem.W.keepIn K (.ref f29) = true)
    (a30 : PySem.W.nsIn K mainGlobals "_law_game" = some (some (.ref f30)))
    (l30 : K.lookup f30 = some ⟨oc30, od30, .func (PySem.W.fnOf "_law_game" "_law_game" (defArgs st__law_game) (defBody st__law_game) (defScope st__law_game) .none kV30 dc30 pm30 an30 cd30 ct30), sl30⟩)
    (c30 : PySem.W.codeIn K cd30 "_law_game" = true)
    (k30 : PySem.W.keepIn K (.ref f30) = true)
    (a31 : PySem.W.nsIn K mainGlobals "_law_copy_agents" = some (some (.ref f31)))
    (l31 : K.lookup f31 = some ⟨oc31, od31, .func (PySem.W.fnOf "_law_copy_agents" "_law_copy_agents" (defArgs st__law_copy_agents) (defBody st__law_copy_agents) (defScope st__law_copy_agents) .none kV31 dc31 pm31 an31 cd31 ct31), sl31⟩)
    (c31 : PySem.W.codeIn K cd31 "_law_copy_agents" = true)
    (k31 : PySem.W.keepIn K (.ref f31) = true)
    (a32 : PySem.W.nsIn K mainGlobals "_law_copy_needs" = some (some (.ref f32)))
    (l32 : K.lookup f32 = some ⟨oc32, od32, .func (PySem.W.fnOf "_law_copy_needs" "_law_copy_needs" (defArgs st__law_copy_needs) (defBody st__law_copy_needs) (defScope st__law_copy_needs) .none kV32 dc32 pm32 an32 cd32 ct32), sl32⟩)
    (c32 : PySem.W.codeIn K cd32 "_law_copy_needs" = true)
    (k32 : PySem.W.keepIn K (.ref f32) = true)
    (a33 : PySem.W.nsIn K mainGlobals "_law_made" = some (some (.ref f33)))
    (l33 : K.lookup f33 = some ⟨oc33, od33, .func (PySem.W.fnOf "_law_made" "_law_made" (defArgs st__law_made) (defBody st__law_made) (defScope st__law_made) .none kV33 dc33 pm33 an33 cd33 ct33), sl33⟩)
    (c33 : PySem.W.codeIn K cd33 "_law_made" = true)
    (k33 : PySem.W.keepIn K (.ref f33) = true)
    (a34 : PySem.W.nsIn K mainGlobals "_law_profiles" = some (some (.ref f34)))
    (l34 : K.lookup f34 = some ⟨oc34, od34, .func (PySem.W.fnOf "_law_profiles" "_law_profiles" (defArgs st__law_profiles) (defBody st__law_profiles) (defScope st__law_profiles) .none kV34 dc34 pm34 an34 cd34 ct34), sl34⟩)
    (c34 : PySem.W.codeIn K cd34 "_law_profiles" = true)
    (k34 : PySem.W.keepIn K (.ref f34) = true)
    (a35 : PySem.W.nsIn K mainGlobals "_law_same" = some (some (.ref f35)))
    (l35 : K.lookup f35 = some ⟨oc35, od35, .func (PySem.W.fnOf "_law_same" "_law_same" (defArgs st__law_same) (defBody st__law_same) (defScope st__law_same) .none kV35 dc35 pm35 an35 cd35 ct35), sl35⟩)
    (c35 : PySem.W.codeIn K cd35 "_law_same" = true)
    (k35 : PySem.W.keepIn K (.ref f35) = true)
    (a36 : PySem.W.nsIn K mainGlobals "_law_refused" = some (some (.ref f36)))
    (l36 : K.lookup f36 = some ⟨oc36, od36, .func (PySem.W.fnOf "_law_refused" "_law_refused" (defArgs st__law_refused) (defBody st__law_refused) (defScope st__law_refused) .none kV36 dc36 pm36 an36 cd36 ct36), sl36⟩)
    (c36 : PySem.W.codeIn K cd36 "_law_refused" = true)
    (k36 : PySem.W.keepIn K (.ref f36) = true)
    (a37 : PySem.W.nsIn K mainGlobals "law" = some (some (.ref f37)))
    (l37 : K.lookup f37 = some ⟨oc37, od37, .func (PySem.W.fnOf "law" "law" (defArgs st_law) (defBody st_law) (defScope st_law) .none kV37 dc37 pm37 an37 cd37 ct37), sl37⟩)
    (c37 : PySem.W.codeIn K cd37 "law" = true)
    (k37 : PySem.W.keepIn K (.ref f37) = true)
    (ca0 : PySem.W.nsIn K mainGlobals "UnbentError" = some (some (.ref C0)))
    (cb0 : PySem.W.keepIn K (.ref C0) = true)
    (cc0 : PySem.W.excIn K C0 [.type "ValueError", .type "Exception", .type "BaseException", .type "object"] "ValueError.__new__" = true)
    (cd1000 : PySem.W.subIn K (.ref C0) (.type "BaseException") = some true)
    (ce0 : PySem.W.typeIn K (.ref C0) = some (.type "type"))
    (ca2 : PySem.W.nsIn K mainGlobals "InvalidGame" = some (some (.ref C2)))
    (cb2 : PySem.W.keepIn K (.ref C2) = true)
    (xlc2 : K.lookup C2 = some (excClassObj xn2 xq2 C2 N2 xb2 xm2 true xl2 xs2 xab2 xco2 xd2 x0k2 x1k2 x2k2 x3k2 x5k2 "ValueError.__new__"))
    (xr2 : PySem.HandSPX.refsVE xm2 = true)
    (xsa2 : PySem.W.findIn K (.ref C2) "__setattr__" = some (some (.builtin "object.__setattr__")))
    (cd1002 : PySem.W.subIn K (.ref C2) (.type "BaseException") = some true)
    (ce2 : PySem.W.typeIn K (.ref C2) = some (.type "type"))
    (xi2 : PySem.W.findIn K (.ref C2) "__init__" = some (some (.ref xf2)))
    (xt2 : PySem.W.typeIn K (.ref xf2) = some (.type "function"))
    (xw2 : K.lookup xf2 = some ⟨xoc2, xo2, .func (PySem.W.fnOf "__init__" "InvalidGame.__init__" (defArgs st_InvalidGame) (defBody st_InvalidGame) (defScope st_InvalidGame) .none xkV2 xdc2 xpm2 xan2 xcd2 xct2), xsl2⟩)
    (xc2 : PySem.W.codeIn K xcd2 "InvalidGame.__init__" = true)
    (xf2_69 : PySem.W.findIn K (.ref C2) (fnm 69) = some none)
    (ca9 : PySem.W.nsIn K mainGlobals "TooLarge" = some (some (.ref C9)))
    (cb9 : PySem.W.keepIn K (.ref C9) = true)
    (xlc9 : K.lookup C9 = some (excClassObj xn9 xq9 C9 N9 xb9 xm9 true xl9 xs9 xab9 xco9 xd9 x0k9 x1k9 x2k9 x3k9 x5k9 "ValueError.__new__"))
    (xr9 : PySem.HandSPX.refsVE xm9 = true)
    (xsa9 : PySem.W.findIn K (.ref C9) "__setattr__" = some (some (.builtin "object.__setattr__")))
    (cd1009 : PySem.W.subIn K (.ref C9) (.type "BaseException") = some true)
    (ce9 : PySem.W.typeIn K (.ref C9) = some (.type "type"))
    (xi9 : PySem.W.findIn K (.ref C9) "__init__" = some (some (.ref xf9)))
    (xt9 : PySem.W.typeIn K (.ref xf9) = some (.type "function"))
    (xw9 : K.lookup xf9 = some ⟨xoc9, xo9, .func (PySem.W.fnOf "__init__" "TooLarge.__init__" (defArgs st_TooLarge) (defBody st_TooLarge) (defScope st_TooLarge) .none xkV9 xdc9 xpm9 xan9 xcd9 xct9), xsl9⟩)
    (xc9 : PySem.W.codeIn K xcd9 "TooLarge.__init__" = true)
    (xf9_48 : PySem.W.findIn K (.ref C9) (fnm 48) = some none)
    (ca11 : PySem.W.nsIn K mainGlobals "UnknownProfile" = some (some (.ref C11)))
    (cb11 : PySem.W.keepIn K (.ref C11) = true)
    (xlc11 : K.lookup C11 = some (excClassObj xn11 xq11 C11 N11 xb11 xm11 true xl11 xs11 xab11 xco11 xd11 x0k11 x1k11 x2k11 x3k11 x5k11 "ValueError.__new__"))
    (xr11 : PySem.HandSPX.refsVE xm11 = true)
    (xsa11 : PySem.W.findIn K (.ref C11) "__setattr__" = some (some (.builtin "object.__setattr__")))
    (cd1011 : PySem.W.subIn K (.ref C11) (.type "BaseException") = some true)
    (ce11 : PySem.W.typeIn K (.ref C11) = some (.type "type"))
    (xi11 : PySem.W.findIn K (.ref C11) "__init__" = some (some (.ref xf11)))
    (xt11 : PySem.W.typeIn K (.ref xf11) = some (.type "function"))
    (xw11 : K.lookup xf11 = some ⟨xoc11, xo11, .func (PySem.W.fnOf "__init__" "UnknownProfile.__init__" (defArgs st_UnknownProfile) (defBody st_UnknownProfile) (defScope st_UnknownProfile) .none xkV11 xdc11 xpm11 xan11 xcd11 xct11), xsl11⟩)
    (xc11 : PySem.W.codeIn K xcd11 "UnknownProfile.__init__" = true)
    (xf11_67 : PySem.W.findIn K (.ref C11) (fnm 67) = some none)
    (ca16 : PySem.W.nsIn K mainGlobals "ZeroDenominator" = some (some (.ref C16)))
    (cb16 : PySem.W.keepIn K (.ref C16) = true)
    (cc16 : PySem.W.excIn K C16 [.type "ValueError", .type "Exception", .type "BaseException", .type "object"] "ValueError.__new__" = true)
    (cd1016 : PySem.W.subIn K (.ref C16) (.type "BaseException") = some true)
    (ce16 : PySem.W.typeIn K (.ref C16) = some (.type "type"))
    (ca43 : PySem.W.nsIn K mainGlobals "Game" = some (some (.ref C43)))
    (cb43 : PySem.W.keepIn K (.ref C43) = true)
    (ug43 : PySem.W.plainGet K C43 Str.empty = true)
    (hd43 : PySem.W.hasDictIn K C43 = true)
    (uo43 : PySem.W.plainOver K C43 = true)
    (us43 : PySem.W.findIn K (.ref C43) "__setattr__" = some (some (.builtin "object.__setattr__")))
    (um43 : PySem.W.makesIn K C43 = true)
    (a38 : PySem.W.findIn K (.ref C43) "__init__" = some (some (.ref f38)))
    (i38 : PySem.W.isFn K (.ref f38) = true)
    (l38 : K.lookup f38 = some ⟨oc38, od38, .func (PySem.W.fnOf "__init__" "Game.__init__" (defArgs st_Game___init__) (defBody st_Game___init__) (defScope st_Game___init__) .none kV38 dc38 pm38 an38 cd38 ct38), sl38⟩)
    (c38 : PySem.W.codeIn K cd38 "Game.__init__" = true)
    (k38 : PySem.W.keepIn K (.ref f38) = true)
    (z_ValueError : PySem.W.nsIn K mainGlobals "ValueError" = some none)
    (v_ZERO : PySem.W.nsIn K mainGlobals "ZERO" = some (some (.ref V_ZERO)))
    (w_ZERO : K.lookup V_ZERO = some ⟨.type "tuple", dV_ZERO, .seq #[.int 0 tV_ZERO_0, .int 1 tV_ZERO_1] nV_ZERO, sV_ZERO⟩)
    (v_ONE : PySem.W.nsIn K mainGlobals "ONE" = some (some (.ref V_ONE)))
    (w_ONE : K.lookup V_ONE = some ⟨.type "tuple", dV_ONE, .seq #[.int 1 tV_ONE_0, .int 1 tV_ONE_1] nV_ONE, sV_ONE⟩)
    (v_MOST_AGENTS : PySem.W.nsIn K mainGlobals "MOST_AGENTS" = some (some (.int 4 tV_MOST_AGENTS)))
    (v_MOST_KINDS : PySem.W.nsIn K mainGlobals "MOST_KINDS" = some (some (.int 4 tV_MOST_KINDS)))
    (v_MOST_OUTCOMES : PySem.W.nsIn K mainGlobals "MOST_OUTCOMES" = some (some (.int 6 tV_MOST_OUTCOMES)))
    (v_MOST_NEEDS : PySem.W.nsIn K mainGlobals "MOST_NEEDS" = some (some (.int 12 tV_MOST_NEEDS)))
    (v_MOST_PROFILES : PySem.W.nsIn K mainGlobals "MOST_PROFILES" = some (some (.int 16 tV_MOST_PROFILES)))
    (v_AIMS : PySem.W.nsIn K mainGlobals "AIMS" = some (some (.ref V_AIMS)))
    (w_AIMS : K.lookup V_AIMS = some ⟨.type "tuple", dV_AIMS, .seq #[.str "total" tV_AIMS_0, .str "worst" tV_AIMS_1, .str "paid" tV_AIMS_2] nV_AIMS, sV_AIMS⟩)
    (v_SINGLE_NEEDS : PySem.W.nsIn K mainGlobals "SINGLE_NEEDS" = some (some (.ref V_SINGLE_NEEDS)))
    (w_SINGLE_NEEDS : K.lookup V_SINGLE_NEEDS = some ⟨.type "tuple", dV_SINGLE_NEEDS, .seq #[.str "part" tV_SINGLE_NEEDS_0, .str "budget" tV_SINGLE_NEEDS_1, .str "even" tV_SINGLE_NEEDS_2, .str "bound" tV_SINGLE_NEEDS_3] nV_SINGLE_NEEDS, sV_SINGLE_NEEDS⟩)
    (v_LETTERS : PySem.W.nsIn K mainGlobals "LETTERS" = some (some (.str "abcdefghijklmnopqrstuvwxyz" tV_LETTERS)))
    (z_gcd : PySem.W.nsIn K mainGlobals "gcd" = some (some (.builtin "math.gcd")))
    (z_abs : PySem.W.nsIn K mainGlobals "abs" = some none)
    (z_all : PySem.W.nsIn K mainGlobals "all" = some none)
    (z_any : PySem.W.nsIn K mainGlobals "any" = some none)
    (z_bool : PySem.W.nsIn K mainGlobals "bool" = some none)
    (z_enumerate : PySem.W.nsIn K mainGlobals "enumerate" = some none)
    (z_int : PySem.W.nsIn K mainGlobals "int" = some none)
    (z_isinstance : PySem.W.nsIn K mainGlobals "isinstance" = some none)
    (z_len : PySem.W.nsIn K mainGlobals "len" = some none)
    (z_list : PySem.W.nsIn K mainGlobals "list" = some none)
    (z_range : PySem.W.nsIn K mainGlobals "range" = some none)
    (z_reversed : PySem.W.nsIn K mainGlobals "reversed" = some none)
    (z_set : PySem.W.nsIn K mainGlobals "set" = some none)
    (z_str : PySem.W.nsIn K mainGlobals "str" = some none)
    (z_tuple : PySem.W.nsIn K mainGlobals "tuple" = some none)
    (s2_11 : PySem.W.subIn K (.ref C2) (.ref C11) = some false)
    (hd11 : PySem.W.hasDictIn K C11 = true)
    (s9_11 : PySem.W.subIn K (.ref C9) (.ref C11) = some false)
    (s11_11 : PySem.W.subIn K (.ref C11) (.ref C11) = some true)
    (s16_11 : PySem.W.subIn K (.ref C16) (.ref C11) = some false)
    (t2_2 : PySem.W.kitOne K (.ref C2) (.ref C2) = some true)
    (e2g : PySem.W.findIn K (.ref C2) "__getattribute__" = some (some (.builtin "BaseException.__getattribute__")))
    (e2k : PySem.W.findIn K (.ref C2) "__getattr__" = some none)
    (hd2 : PySem.W.hasDictIn K C2 = true)
    (e2a : PySem.W.findIn K (.ref C2) "__class__" = some (some (.builtin "object.__class__")))
    (e2m : PySem.W.mroIn K C2 (.type "object") = some true)
    (t2_100 : PySem.W.kitOne K (.ref C2) (.type "ValueError") = some true)
    (t9_2 : PySem.W.kitOne K (.ref C9) (.ref C2) = some false)
    (e9g : PySem.W.findIn K (.ref C9) "__getattribute__" = some (some (.builtin "BaseException.__getattribute__")))
    (e9k : PySem.W.findIn K (.ref C9) "__getattr__" = some none)
    (hd9 : PySem.W.hasDictIn K C9 = true)
    (e9a : PySem.W.findIn K (.ref C9) "__class__" = some (some (.builtin "object.__class__")))
    (e9m : PySem.W.mroIn K C9 (.type "object") = some true)
    (t9_100 : PySem.W.kitOne K (.ref C9) (.type "ValueError") = some true)
    (t11_2 : PySem.W.kitOne K (.ref C11) (.ref C2) = some false)
    (e11g : PySem.W.findIn K (.ref C11) "__getattribute__" = some (some (.builtin "BaseException.__getattribute__")))
    (e11k : PySem.W.findIn K (.ref C11) "__getattr__" = some none)
    (e11a : PySem.W.findIn K (.ref C11) "__class__" = some (some (.builtin "object.__class__")))
    (e11m : PySem.W.mroIn K C11 (.type "object") = some true)
    (t11_100 : PySem.W.kitOne K (.ref C11) (.type "ValueError") = some true)
    (t16_2 : PySem.W.kitOne K (.ref C16) (.ref C2) = some false)
    (e16g : PySem.W.findIn K (.ref C16) "__getattribute__" = some (some (.builtin "BaseException.__getattribute__")))
    (e16k : PySem.W.findIn K (.ref C16) "__getattr__" = some none)
    (hd16 : PySem.W.hasDictIn K C16 = true)
    (e16a : PySem.W.findIn K (.ref C16) "__class__" = some (some (.builtin "object.__class__")))
    (e16m : PySem.W.mroIn K C16 (.type "object") = some true)
    (t16_100 : PySem.W.kitOne K (.ref C16) (.type "ValueError") = some true)
    (en : PySem.W.specialIn K (.builtin "object.__class__") "__get__" = some (some (.builtin "getset_descriptor.__get__")))
    (et : PySem.W.takesIn K (.builtin "object.__class__") = some true)
    (n43_13 : PySem.W.findIn K (.ref C43) (fnm 13) = some none)
    (n43_14 : PySem.W.findIn K (.ref C43) (fnm 14) = some none)
    (n43_52 : PySem.W.findIn K (.ref C43) (fnm 52) = some none)
    (n43_56 : PySem.W.findIn K (.ref C43) (fnm 56) = some none)
    (n43_62 : PySem.W.findIn K (.ref C43) (fnm 62) = some none)
    (n43_64 : PySem.W.findIn K (.ref C43) (fnm 64) = some none) : ∃ cv df f fd, pg.defs[37]? = some df ∧ PgOk pg K mg cv ∧ DfOk K mg "law" 1 [] df f fd ["_law_script"] :=
  ⟨cvL C43 C0 C2 C9 C11 C16, _, f37, _, rfl, ⟨glAll_of (l := gl) ⟨trivial, trivial, trivial, trivial, trivial, trivial, trivial, trivial, trivial, trivial, trivial, trivial, trivial, trivial, trivial, trivial, trivial, trivial, trivial, trivial, trivial, trivial, trivial, trivial, trivial, trivial, trivial, trivial, trivial, trivial, trivial, trivial, trivial, trivial, trivial, trivial, trivial, trivial, ⟨C0, rfl, PySem.W.mg_of X G ca0, cb0, cc0, cd1000, ce0⟩, xcls1 (st := st_InvalidGame) (C := C2) X G rfl ⟨ca2, cb2, ⟨⟨_, _, _, _, _, _, _, _, _, _, _, _, _, _, _, xlc2, xr2⟩, xsa2, cd1002, ce2, cb2⟩, xi2, xt2, ⟨_, _, _, _, _, _, _, _, _, rfl, xw2, xc2⟩, sc_InvalidGame, fun us hl => match us, hl with | [_, _], _ => rfl⟩ xf2_69 rfl (by decide) (by decide), xcls1 (st := st_TooLarge) (C := C9) X G rfl ⟨ca9, cb9, ⟨⟨_, _, _, _, _, _, _, _, _, _, _, _, _, _, _, xlc9, xr9⟩, xsa9, cd1009, ce9, cb9⟩, xi9, xt9, ⟨_, _, _, _, _, _, _, _, _, rfl, xw9, xc9⟩, sc_TooLarge, fun us hl => match us, hl with | [_, _], _ => rfl⟩ xf9_48 rfl (by decide) (by decide), xcls1 (st := st_UnknownProfile) (C := C11) X G rfl ⟨ca11, cb11, ⟨⟨_, _, _, _, _, _, _, _, _, _, _, _, _, _, _, xlc11, xr11⟩, xsa11, cd1011, ce11, cb11⟩, xi11, xt11, ⟨_, _, _, _, _, _, _, _, _, rfl, xw11, xc11⟩, sc_UnknownProfile, fun us hl => match us, hl with | [_, _], _ => rfl⟩ xf11_67 rfl (by decide) (by decide), ⟨C16, rfl, PySem.W.mg_of X G ca16, cb16, cc16, cd1016, ce16⟩, trivial, ⟨_, rfl, PySem.W.mg_none_of X G z_ValueError, by rfl⟩, ⟨_, .ref V_ZERO, PySem.W.mg_of X G v_ZERO, rfl, fun _ _ _ => .tup (vs := [(.int 0), (.int 1)]) (.inr ⟨_, _, _, w_ZERO, rfl, rfl, Nat.le_of_ble_eq_true rfl, .cons ⟨_, rfl⟩ (.cons ⟨_, rfl⟩ (.nil))⟩) (.cons (.int _) (.cons (.int _) (.nil)))⟩, ⟨_, .ref V_ONE, PySem.W.mg_of X G v_ONE, rfl, fun _ _ _ => .tup (vs := [(.int 1), (.int 1)]) (.inr ⟨_, _, _, w_ONE, rfl, rfl, Nat.le_of_ble_eq_true rfl, .cons ⟨_, rfl⟩ (.cons ⟨_, rfl⟩ (.nil))⟩) (.cons (.int _) (.cons (.int _) (.nil)))⟩, ⟨_, (.int 4), PySem.W.mg_of X G v_MOST_AGENTS, ⟨_, rfl⟩, fun _ _ _ => (.int _)⟩, ⟨_, (.int 4), PySem.W.mg_of X G v_MOST_KINDS, ⟨_, rfl⟩, fun _ _ _ => (.int _)⟩, ⟨_, (.int 6), PySem.W.mg_of X G v_MOST_OUTCOMES, ⟨_, rfl⟩, fun _ _ _ => (.int _)⟩, ⟨_, (.int 12), PySem.W.mg_of X G v_MOST_NEEDS, ⟨_, rfl⟩, fun _ _ _ => (.int _)⟩, ⟨_, (.int 16), PySem.W.mg_of X G v_MOST_PROFILES, ⟨_, rfl⟩, fun _ _ _ => (.int _)⟩, ⟨_, .ref V_AIMS, PySem.W.mg_of X G v_AIMS, rfl, fun _ _ _ => .tup (vs := [(.str "total"), (.str "worst"), (.str "paid")]) (.inr ⟨_, _, _, w_AIMS, rfl, rfl, Nat.le_of_ble_eq_true rfl, .cons ⟨_, rfl⟩ (.cons ⟨_, rfl⟩ (.cons ⟨_, rfl⟩ (.nil)))⟩) (.cons (.str _) (.cons (.str _) (.cons (.str _) (.nil))))⟩, ⟨_, .ref V_SINGLE_NEEDS, PySem.W.mg_of X G v_SINGLE_NEEDS, rfl, fun _ _ _ => .tup (vs := [(.str "part"), (.str "budget"), (.str "even"), (.str "bound")]) (.inr ⟨_, _, _, w_SINGLE_NEEDS, rfl, rfl, Nat.le_of_ble_eq_true rfl, .cons ⟨_, rfl⟩ (.cons ⟨_, rfl⟩ (.cons ⟨_, rfl⟩ (.cons ⟨_, rfl⟩ (.nil))))⟩) (.cons (.str _) (.cons (.str _) (.cons (.str _) (.cons (.str _) (.nil)))))⟩, ⟨_, (.str "abcdefghijklmnopqrstuvwxyz"), PySem.W.mg_of X G v_LETTERS, ⟨_, rfl⟩, fun _ _ _ => (.str _)⟩, PySem.W.mg_of X G z_gcd, PySem.W.mg_none_of X G z_abs, PySem.W.mg_none_of X G z_all, PySem.W.mg_none_of X G z_any, PySem.W.mg_none_of X G z_bool, PySem.W.mg_none_of X G z_enumerate, PySem.W.mg_none_of X G z_int, PySem.W.mg_none_of X G z_isinstance, PySem.W.mg_none_of X G z_len, PySem.W.mg_none_of X G z_list, PySem.W.mg_none_of X G z_range, PySem.W.mg_none_of X G z_reversed, PySem.W.mg_none_of X G z_set, PySem.W.mg_none_of X G z_str, PySem.W.mg_none_of X G z_tuple, trivial⟩, tbAll_of (l := [(2, 11, false), (9, 11, false), (11, 11, true), (16, 11, false)]) ⟨PySem.W.exm_ref cd1011 hd11 ce11 s2_11, PySem.W.exm_ref cd1011 hd11 ce11 s9_11, PySem.W.exm_ref cd1011 hd11 ce11 s11_11, PySem.W.exm_ref cd1011 hd11 ce11 s16_11, trivial⟩, tbAll_of (l := [(2, 2, true), (2, 100, true), (9, 2, false), (9, 100, true), (11, 2, false), (11, 100, true), (16, 2, false), (16, 100, true)]) ⟨⟨t2_2, C2, rfl, ⟨e2g, e2k, cd1002, hd2, e2a, en, et, e2m⟩⟩, ⟨t2_100, C2, rfl, ⟨e2g, e2k, cd1002, hd2, e2a, en, et, e2m⟩⟩, ⟨t9_2, C9, rfl, ⟨e9g, e9k, cd1009, hd9, e9a, en, et, e9m⟩⟩, ⟨t9_100, C9, rfl, ⟨e9g, e9k, cd1009, hd9, e9a, en, et, e9m⟩⟩, ⟨t11_2, C11, rfl, ⟨e11g, e11k, cd1011, hd11, e11a, en, et, e11m⟩⟩, ⟨t11_100, C11, rfl, ⟨e11g, e11k, cd1011, hd11, e11a, en, et, e11m⟩⟩, ⟨t16_2, C16, rfl, ⟨e16g, e16k, cd1016, hd16, e16a, en, et, e16m⟩⟩, ⟨t16_100, C16, rfl, ⟨e16g, e16k, cd1016, hd16, e16a, en, et, e16m⟩⟩, trivial⟩,
    dfAll_of (l := gl) ⟨(let ⟨fd, F⟩ := df_mk (ps := ["value"]) X G a0 l0 c0 k0 sc_is_integer (fun _ _ _ _ _ _ us hl => match us, hl with | [_], _ => rfl); ⟨_, f0, fd, _, rfl, F⟩),
      (let ⟨fd, F⟩ := df_mk (ps := ["value"]) X G a1 l1 c1 k1 sc_is_ratio (fun _ _ _ _ _ _ us hl => match us, hl with | [_], _ => rfl); ⟨_, f1, fd, _, rfl, F⟩),
      (let ⟨fd, F⟩ := df_mkD (ps := ["p", "q"]) (dv := [(.int 1)]) (dvs := [(.int 1)]) X G a2 l2 c2 k2 lT2 rfl (.cons ⟨_, rfl⟩ (.nil)) (fun _ _ _ => .cons (.int _) (.nil)) (by simp) sc_make (fun j hj => match j, hj with | 0, _ => fun _ _ _ _ _ _ _ us its hu hi => (match us, hu, its, hi with | [_], _, [_], _ => ⟨_, rfl, rfl⟩) | 1, _ => fun _ _ _ _ _ _ _ us its hu hi => (match us, hu, its, hi with | [_, _], _, [_], _ => ⟨_, rfl, rfl⟩) | j + 2, h => absurd h (by simp)) (by decide); ⟨_, f2, fd, _, rfl, F⟩),
      (let ⟨fd, F⟩ := df_mk (ps := ["a", "b"]) X G a3 l3 c3 k3 sc_multiply (fun _ _ _ _ _ _ us hl => match us, hl with | [_, _], _ => rfl); ⟨_, f3, fd, _, rfl, F⟩),
      (let ⟨fd, F⟩ := df_mk (ps := ["a", "b"]) X G a4 l4 c4 k4 sc_compare (fun _ _ _ _ _ _ us hl => match us, hl with | [_, _], _ => rfl); ⟨_, f4, fd, _, rfl, F⟩),
      (let ⟨fd, F⟩ := df_mk (ps := ["a"]) X G a5 l5 c5 k5 sc_sign (fun _ _ _ _ _ _ us hl => match us, hl with | [_], _ => rfl); ⟨_, f5, fd, _, rfl, F⟩),
      (let ⟨fd, F⟩ := df_mk (ps := ["word"]) X G a6 l6 c6 k6 sc_is_name (fun _ _ _ _ _ _ us hl => match us, hl with | [_], _ => rfl); ⟨_, f6, fd, _, rfl, F⟩),
      (let ⟨fd, F⟩ := df_mk (ps := ["words"]) X G a7 l7 c7 k7 sc_are_names (fun _ _ _ _ _ _ us hl => match us, hl with | [_], _ => rfl); ⟨_, f7, fd, _, rfl, F⟩),
      (let ⟨fd, F⟩ := df_mk (ps := ["value", "count"]) X G a8 l8 c8 k8 sc_is_index (fun _ _ _ _ _ _ us hl => match us, hl with | [_, _], _ => rfl); ⟨_, f8, fd, _, rfl, F⟩),
      (let ⟨fd, F⟩ := df_mk (ps := ["swap", "count"]) X G a9 l9 c9 k9 sc_is_swap (fun _ _ _ _ _ _ us hl => match us, hl with | [_, _], _ => rfl); ⟨_, f9, fd, _, rfl, F⟩),
      (let ⟨fd, F⟩ := df_mk (ps := ["chosen", "count"]) X G a10 l10 c10 k10 sc_is_choice (fun _ _ _ _ _ _ us hl => match us, hl with | [_, _], _ => rfl); ⟨_, f10, fd, _, rfl, F⟩),
      (let ⟨fd, F⟩ := df_mk (ps := ["need", "agent_count", "outcome_count"]) X G a11 l11 c11 k11 sc_is_need (fun _ _ _ _ _ _ us hl => match us, hl with | [_, _, _], _ => rfl); ⟨_, f11, fd, _, rfl, F⟩),
      (let ⟨fd, F⟩ := df_mk (ps := ["need", "earlier"]) X G a12 l12 c12 k12 sc_is_excluded (fun _ _ _ _ _ _ us hl => match us, hl with | [_, _], _ => rfl); ⟨_, f12, fd, _, rfl, F⟩),
      (let ⟨fd, F⟩ := df_mk (ps := ["agents", "outcomes", "needs"]) X G a13 l13 c13 k13 sc_check_limits (fun _ _ _ _ _ _ us hl => match us, hl with | [_, _, _], _ => rfl); ⟨_, f13, fd, _, rfl, F⟩),
      (let ⟨fd, F⟩ := df_mk (ps := ["agents", "outcomes", "aim", "needs"]) X G a14 l14 c14 k14 sc_check_game (fun _ _ _ _ _ _ us hl => match us, hl with | [_, _, _, _], _ => rfl); ⟨_, f14, fd, _, rfl, F⟩),
      (let ⟨fd, F⟩ := df_mk (ps := ["kinds"]) X G a15 l15 c15 k15 sc_copied_kinds (fun _ _ _ _ _ _ us hl => match us, hl with | [_], _ => rfl); ⟨_, f15, fd, _, rfl, F⟩),
      (let ⟨fd, F⟩ := df_mk (ps := ["need"]) X G a16 l16 c16 k16 sc_copied_need (fun _ _ _ _ _ _ us hl => match us, hl with | [_], _ => rfl); ⟨_, f16, fd, _, rfl, F⟩),
      (let ⟨fd, F⟩ := df_mk (ps := ["game"]) X G a17 l17 c17 k17 sc_profiles (fun _ _ _ _ _ _ us hl => match us, hl with | [_], _ => rfl); ⟨_, f17, fd, _, rfl, F⟩),
      (let ⟨fd, F⟩ := df_mk (ps := ["game", "profile"]) X G a18 l18 c18 k18 sc_profile_number (fun _ _ _ _ _ _ us hl => match us, hl with | [_, _], _ => rfl); ⟨_, f18, fd, _, rfl, F⟩),
      (let ⟨fd, F⟩ := df_mk (ps := ["profile", "agent", "kind"]) X G a19 l19 c19 k19 sc_with_kind (fun _ _ _ _ _ _ us hl => match us, hl with | [_, _, _], _ => rfl); ⟨_, f19, fd, _, rfl, F⟩),
      (let ⟨fd, F⟩ := df_mk (ps := ["game", "profile"]) X G a20 l20 c20 k20 sc_profile_weight (fun _ _ _ _ _ _ us hl => match us, hl with | [_, _], _ => rfl); ⟨_, f20, fd, _, rfl, F⟩),
      (let ⟨fd, F⟩ := df_mk (ps := ["_law_script"]) X G a21 l21 c21 k21 sc__law_draws (fun _ _ _ _ _ _ us hl => match us, hl with | [_], _ => rfl); ⟨_, f21, fd, _, rfl, F⟩),
      (let ⟨fd, F⟩ := df_mk (ps := ["_law_draws_here", "_law_bound"]) X G a22 l22 c22 k22 sc__law_take (fun _ _ _ _ _ _ us hl => match us, hl with | [_, _], _ => rfl); ⟨_, f22, fd, _, rfl, F⟩),
      (let ⟨fd, F⟩ := df_mk (ps := ["_law_draws_here", "_law_many"]) X G a23 l23 c23 k23 sc__law_names (fun _ _ _ _ _ _ us hl => match us, hl with | [_, _], _ => rfl); ⟨_, f23, fd, _, rfl, F⟩),
      (let ⟨fd, F⟩ := df_mk (ps := ["_law_p", "_law_q"]) X G a24 l24 c24 k24 sc__law_make (fun _ _ _ _ _ _ us hl => match us, hl with | [_, _], _ => rfl); ⟨_, f24, fd, _, rfl, F⟩),
      (let ⟨fd, F⟩ := df_mk (ps := ["_law_a", "_law_b"]) X G a25 l25 c25 k25 sc__law_times (fun _ _ _ _ _ _ us hl => match us, hl with | [_, _], _ => rfl); ⟨_, f25, fd, _, rfl, F⟩),
      (let ⟨fd, F⟩ := df_mk (ps := ["_law_draws_here", "_law_least"]) X G a26 l26 c26 k26 sc__law_fraction (fun _ _ _ _ _ _ us hl => match us, hl with | [_, _], _ => rfl); ⟨_, f26, fd, _, rfl, F⟩),
      (let ⟨fd, F⟩ := df_mk (ps := ["_law_draws_here", "_law_most", "_law_outcomes"]) X G a27 l27 c27 k27 sc__law_kinds (fun _ _ _ _ _ _ us hl => match us, hl with | [_, _, _], _ => rfl); ⟨_, f27, fd, _, rfl, F⟩),
      (let ⟨fd, F⟩ := df_mk (ps := ["_law_draws_here", "_law_count"]) X G a28 l28 c28 k28 sc__law_swap (fun _ _ _ _ _ _ us hl => match us, hl with | [_, _], _ => rfl); ⟨_, f28, fd, _, rfl, F⟩),
      (let ⟨fd, F⟩ := df_mk (ps := ["_law_draws_here", "_law_agents", "_law_outcomes"]) X G a29 l29 c29 k29 sc__law_needs (fun _ _ _ _ _ _ us hl => match us, hl with | [_, _, _], _ => rfl); ⟨_, f29, fd, _, rfl, F⟩),
      (let ⟨fd, F⟩ := df_mk (ps := ["_law_draws_here", "_law_most_agents", "_law_most_kinds"]) X G a30 l30 c30 k30 sc__law_game (fun _ _ _ _ _ _ us hl => match us, hl with | [_, _, _], _ => rfl); ⟨_, f30, fd, _, rfl, F⟩),
      (let ⟨fd, F⟩ := df_mk (ps := ["_law_agents"]) X G a31 l31 c31 k31 sc__law_copy_agents (fun _ _ _ _ _ _ us hl => match us, hl with | [_], _ => rfl); ⟨_, f31, fd, _, rfl, F⟩),
      (let ⟨fd, F⟩ := df_mk (ps := ["_law_needs_here"]) X G a32 l32 c32 k32 sc__law_copy_needs (fun _ _ _ _ _ _ us hl => match us, hl with | [_], _ => rfl); ⟨_, f32, fd, _, rfl, F⟩),
      (let ⟨fd, F⟩ := df_mk (ps := ["_law_data"]) X G a33 l33 c33 k33 sc__law_made (fun _ _ _ _ _ _ us hl => match us, hl with | [_], _ => rfl); ⟨_, f33, fd, _, rfl, F⟩),
      (let ⟨fd, F⟩ := df_mk (ps := ["_law_agents"]) X G a34 l34 c34 k34 sc__law_profiles (fun _ _ _ _ _ _ us hl => match us, hl with | [_], _ => rfl); ⟨_, f34, fd, _, rfl, F⟩),
      (let ⟨fd, F⟩ := df_mk (ps := ["_law_value", "_law_due"]) X G a35 l35 c35 k35 sc__law_same (fun _ _ _ _ _ _ us hl => match us, hl with | [_, _], _ => rfl); ⟨_, f35, fd, _, rfl, F⟩),
      (let ⟨fd, F⟩ := df_mk (ps := ["_law_game_here", "_law_profile"]) X G a36 l36 c36 k36 sc__law_refused (fun _ _ _ _ _ _ us hl => match us, hl with | [_, _], _ => rfl); ⟨_, f36, fd, _, rfl, F⟩),
      (let ⟨fd, F⟩ := df_mk (ps := ["_law_script"]) X G a37 l37 c37 k37 sc_law (fun _ _ _ _ _ _ us hl => match us, hl with | [_], _ => rfl); ⟨_, f37, fd, _, rfl, F⟩),
      trivial⟩, clAll_of (l := gl) ⟨⟨_, C43, f38, _, _, rfl, ⟨dfb_mk l38 c38 sc_Game___init__, PySem.W.mg_of X G ca43, rfl, ⟨ug43, hd43, uo43, us43⟩, ⟨um43, a38, i38, cb43⟩, ⟨[], fun _ _ _ => .nil, fun j hj => (by cases hj)⟩, ksAll_of ⟨kb_mk0 (fun us ws hu hw => match us, hu, ws, hw with | [_, _, _], _, [_, _, _, _], _ => rfl) (fun us mv ws hu hm hw => match us, hu, ws, hw with | [_, _, _], _, [_, _, _, _], _ => rfl), trivial⟩⟩⟩, trivial⟩, meAll_of (l := ms) trivial, naAll_of (l := insL) ⟨(fun C e => by cases e), (fun C e => by cases e), (fun C e => by cases e), (fun C e => by cases e; exact ⟨n43_13, n43_14, n43_52, n43_56, n43_62, n43_64, trivial⟩), (fun C e => by cases e), (fun C e => by cases e), (fun C e => by cases e), (fun C e => by cases e), (fun C e => by cases e), (fun C e => by cases e), (fun C e => by cases e), (fun C e => by cases e), (fun C e => by cases e), (fun C e => by cases e), (fun C e => by cases e), (fun C e => by cases e), (fun C e => by cases e), trivial⟩, xfAll_of (l := [(2, [69]), (9, [48]), (11, [67])]) ⟨⟨C2, rfl, ⟨e2g, e2k, cd1002, hd2⟩, ⟨xf2_69, trivial⟩⟩, ⟨C9, rfl, ⟨e9g, e9k, cd1009, hd9⟩, ⟨xf9_48, trivial⟩⟩, ⟨C11, rfl, ⟨e11g, e11k, cd1011, hd11⟩, ⟨xf11_67, trivial⟩⟩, trivial⟩⟩,
    (df_mk (ps := ["_law_script"]) X G a37 l37 c37 k37 sc_law (fun _ _ _ _ _ _ us hl => match us, hl with | [_], _ => rfl)).choose_spec⟩
end Lw
open PySem PySem.W PyProof.Rows
set_option maxHeartbeats 0 in
theorem PySem.Challenge.cw_unbent_k19_profiles_holds : PySem.Challenge.rw_unbent_k19_profiles.Holds := by
  w_on; o_law; k_head; (case hw => w_witness2)
  k_fill
  refine Mn.walk_mn (l := PySem.Challenge.rw_unbent_k19_profiles) (n := 63) (k := 7) (id := 37) (x := "_law_script") (P := Lw.pg) rfl (by decide) rfl ⟨rfl, by decide, by decide⟩ (fun w h Y => PySem.W.kIn_of Y) (fun ns h1 h2 => Lw.law_true ns h1 h2) ?F
  intro w mg h X G
  refine' Lw.pg_mk X G ?a0 ?l0 ?c0 ?k0 ?a1 ?l1 ?c1 ?k1 ?a2 ?l2 ?c2 ?k2 ?lT2 ?a3 ?l3 ?c3 ?k3 ?a4 ?l4 ?c4 ?k4 ?a5 ?l5 ?c5 ?k5 ?a6 ?l6 ?c6 ?k6 ?a7 ?l7 ?c7 ?k7 ?a8 ?l8 ?c8 ?k8 ?a9 ?l9 ?c9 ?k9 ?a10 ?l10 ?c10 ?k10 ?a11 ?l11 ?c11 ?k11 ?a12 ?l12 ?c12 ?k12 ?a13 ?l13 ?c13 ?k13 ?a14 ?l14 ?c14 ?k14 ?a15 ?l15 ?c15 ?k15 ?a16 ?l16 ?c16 ?k16 ?a17 ?l17 ?c17 ?k17 ?a18 ?l18 ?c18 ?k18 ?a19 ?l19 ?c19 ?k19 ?a20 ?l20 ?c20 ?k20 ?a21 ?l21 ?c21 ?k21 ?a22 ?l22 ?c22 ?k22 ?a23 ?l23 ?c23 ?k23 ?a24 ?l24 ?c24 ?k24 ?a25 ?l25 ?c25 ?k25 ?a26 ?l26 ?c26 ?k26 ?a27 ?l27 ?c27 ?k27 ?a28 ?l28 ?c28 ?k28 ?a29 ?l29 ?c29 ?k29 ?a30 ?l30 ?c30 ?k30 ?a31 ?l31 ?c31 ?k31 ?a32 ?l32 ?c32 ?k32 ?a33 ?l33 ?c33 ?k33 ?a34 ?l34 ?c34 ?k34 ?a35 ?l35 ?c35 ?k35 ?a36 ?l36 ?c36 ?k36 ?a37 ?l37 ?c37 ?k37 ?ca0 ?cb0 ?cc0 ?cd1000 ?ce0 ?ca2 ?cb2 ?xlc2 ?xr2 ?xsa2 ?cd1002 ?ce2 ?xi2 ?xt2 ?xw2 ?xc2 ?xf2_69 ?ca9 ?cb9 ?xlc9 ?xr9 ?xsa9 ?cd1009 ?ce9 ?xi9 ?xt9 ?xw9 ?xc9 ?xf9_48 ?ca11 ?cb11 ?xlc11 ?xr11 ?xsa11 ?cd1011 ?ce11 ?xi11 ?xt11 ?xw11 ?xc11 ?xf11_67 ?ca16 ?cb16 ?cc16 ?cd1016 ?ce16 ?ca43 ?cb43 ?ug43 ?hd43 ?uo43 ?us43 ?um43 ?a38 ?i38 ?l38 ?c38 ?k38 ?z_ValueError ?v_ZERO ?w_ZERO ?v_ONE ?w_ONE ?v_MOST_AGENTS ?v_MOST_KINDS ?v_MOST_OUTCOMES ?v_MOST_NEEDS ?v_MOST_PROFILES ?v_AIMS ?w_AIMS ?v_SINGLE_NEEDS ?w_SINGLE_NEEDS ?v_LETTERS ?z_gcd ?z_abs ?z_all ?z_any ?z_bool ?z_enumerate ?z_int ?z_isinstance ?z_len ?z_list ?z_range ?z_reversed ?z_set ?z_str ?z_tuple ?s2_11 ?hd11 ?s9_11 ?s11_11 ?s16_11 ?t2_2 ?e2g ?e2k ?hd2 ?e2a ?e2m ?t2_100 ?t9_2 ?e9g ?e9k ?hd9 ?e9a ?e9m ?t9_100 ?t11_2 ?e11g ?e11k ?e11a ?e11m ?t11_100 ?t16_2 ?e16g ?e16k ?hd16 ?e16a ?e16m ?t16_100 ?en ?et ?n43_13 ?n43_14 ?n43_52 ?n43_56 ?n43_62 ?n43_64
  (case a0 => k_is)
  (case l0 => k_is)
  (case c0 => k_is)
  (case k0 => k_is)
  (case a1 => k_is)
  (case l1 => k_is)
  (case c1 => k_is)
  (case k1 => k_is)
  (case a2 => k_is)
  (case l2 => k_is)
  (case c2 => k_is)
  (case k2 => k_is)
  (case lT2 => k_is)
  (case a3 => k_is)
  (case l3 => k_is)
  (case c3 => k_is)
  (case k3 => k_is)
  (case a4 => k_is)
  (case l4 => k_is)
  (case c4 => k_is)
  (case k4 => k_is)
  (case a5 => k_is)
  (case l5 => k_is)
  (case c5 => k_is)
  (case k5 => k_is)
  (case a6 => k_is)
  (case l6 => k_is)
  (case c6 => k_is)
  (case k6 => k_is)
  (case a7 => k_is)
  (case l7 => k_is)
  (case c7 => k_is)
  (case k7 => k_is)
  (case a8 => k_is)
  (case l8 => k_is)
  (case c8 => k_is)
  (case k8 => k_is)
  (case a9 => k_is)
  (case l9 => k_is)
  (case c9 => k_is)
  (case k9 => k_is)
  (case a10 => k_is)
  (case l10 => k_is)
  (case c10 => k_is)
  (case k10 => k_is)
  (case a11 => k_is)
  (case l11 => k_is)
  (case c11 => k_is)
  (case k11 => k_is)
  (case a12 => k_is)
  (case l12 => k_is)
  (case c12 => k_is)
  (case k12 => k_is)
  (case a13 => k_is)
  (case l13 => k_is)
  (case c13 => k_is)
  (case k13 => k_is)
  (case a14 => k_is)
  (case l14 => k_is)
  (case c14 => k_is)
  (case k14 => k_is)
  (case a15 => k_is)
  (case l15 => k_is)
  (case c15 => k_is)
  (case k15 => k_is)
  (case a16 => k_is)
  (case l16 => k_is)
  (case c16 => k_is)
  (case k16 => k_is)
  (case a17 => k_is)
  (case l17 => k_is)
  (case c17 => k_is)
  (case k17 => k_is)
  (case a18 => k_is)
  (case l18 => k_is)
  (case c18 => k_is)
  (case k18 => k_is)
  (case a19 => k_is)
  (case l19 => k_is)
  (case c19 => k_is)
  (case k19 => k_is)
  (case a20 => k_is)
  (case l20 => k_is)
  (case c20 => k_is)
  (case k20 => k_is)
  (case a21 => k_is)
  (case l21 => k_is)
  (case c21 => k_is)
  (case k21 => k_is)
  (case a22 => k_is)
  (case l22 => k_is)
  (case c22 => k_is)
  (case k22 => k_is)
  (case a23 => k_is)
  (case l23 => k_is)
  (case c23 => k_is)
  (case k23 => k_is)
  (case a24 => k_is)
  (case l24 => k_is)
  (case c24 => k_is)
  (case k24 => k_is)
  (case a25 => k_is)
  (case l25 => k_is)
  (case c25 => k_is)
  (case k25 => k_is)
  (case a26 => k_is)
  (case l26 => k_is)
  (case c26 => k_is)
  (case k26 => k_is)
  (case a27 => k_is)
  (case l27 => k_is)
  (case c27 => k_is)
  (case k27 => k_is)
  (case a28 => k_is)
  (case l28 => k_is)
  (case c28 => k_is)
  (case k28 => k_is)
  (case a29 => k_is)
  (case l29 => k_is)
  (case c29 => k_is)
  (case k29 => k_is)
  (case a30 => k_is)
  (case l30 => k_is)
  (case c30 => k_is)
  (case k30 => k_is)
  (case a31 => k_is)
  (case l31 => k_is)
  (case c31 => k_is)
  (case k31 => k_is)
  (case a32 => k_is)
  (case l32 => k_is)
  (case c32 => k_is)
  (case k32 => k_is)
  (case a33 => k_is)
  (case l33 => k_is)
  (case c33 => k_is)
  (case k33 => k_is)
  (case a34 => k_is)
  (case l34 => k_is)
  (case c34 => k_is)
  (case k34 => k_is)
  (case a35 => k_is)
  (case l35 => k_is)
  (case c35 => k_is)
  (case k35 => k_is)
  (case a36 => k_is)
  (case l36 => k_is)
  (case c36 => k_is)
  (case k36 => k_is)
  (case a37 => k_is)
  (case l37 => k_is)
  (case c37 => k_is)
  (case k37 => k_is)
  (case ca0 => k_is)
  (case cb0 => k_is)
  (case cc0 => k_exc)
  (case cd1000 => k_is)
  (case ce0 => k_is)
  (case ca2 => k_is)
  (case cb2 => k_is)
  (case xlc2 => k_is)
  (case xr2 => kernel_rfl)
  (case xsa2 => k_is)
  (case cd1002 => k_is)
  (case ce2 => k_is)
  (case xi2 => k_is)
  (case xt2 => k_is)
  (case xw2 => k_is)
  (case xc2 => k_is)
  (case xf2_69 => k_is)
  (case ca9 => k_is)
  (case cb9 => k_is)
  (case xlc9 => k_is)
  (case xr9 => kernel_rfl)
  (case xsa9 => k_is)
  (case cd1009 => k_is)
  (case ce9 => k_is)
  (case xi9 => k_is)
  (case xt9 => k_is)
  (case xw9 => k_is)
  (case xc9 => k_is)
  (case xf9_48 => k_is)
  (case ca11 => k_is)
  (case cb11 => k_is)
  (case xlc11 => k_is)
  (case xr11 => kernel_rfl)
  (case xsa11 => k_is)
  (case cd1011 => k_is)
  (case ce11 => k_is)
  (case xi11 => k_is)
  (case xt11 => k_is)
  (case xw11 => k_is)
  (case xc11 => k_is)
  (case xf11_67 => k_is)
  (case ca16 => k_is)
  (case cb16 => k_is)
  (case cc16 => k_exc)
  (case cd1016 => k_is)
  (case ce16 => k_is)
  (case ca43 => k_is)
  (case cb43 => k_is)
  (case ug43 => k_is)
  (case hd43 => k_is)
  (case uo43 => k_is)
  (case us43 => k_is)
  (case um43 => k_is)
  (case a38 => k_is)
  (case i38 => k_is)
  (case l38 => k_is)
  (case c38 => k_is)
  (case k38 => k_is)
  (case z_ValueError => k_is)
  (case v_ZERO => k_is)
  (case w_ZERO => k_is)
  (case v_ONE => k_is)
  (case w_ONE => k_is)
  (case v_MOST_AGENTS => k_is)
  (case v_MOST_KINDS => k_is)
  (case v_MOST_OUTCOMES => k_is)
  (case v_MOST_NEEDS => k_is)
  (case v_MOST_PROFILES => k_is)
  (case v_AIMS => k_is)
  (case w_AIMS => k_is)
  (case v_SINGLE_NEEDS => k_is)
  (case w_SINGLE_NEEDS => k_is)
  (case v_LETTERS => k_is)
  (case z_gcd => k_is)
  (case z_abs => k_is)
  (case z_all => k_is)
  (case z_any => k_is)
  (case z_bool => k_is)
  (case z_enumerate => k_is)
  (case z_int => k_is)
  (case z_isinstance => k_is)
  (case z_len => k_is)
  (case z_list => k_is)
  (case z_range => k_is)
  (case z_reversed => k_is)
  (case z_set => k_is)
  (case z_str => k_is)
  (case z_tuple => k_is)
  (case s2_11 => k_is)
  (case hd11 => k_is)
  (case s9_11 => k_is)
  (case s11_11 => k_is)
  (case s16_11 => k_is)
  (case t2_2 => first | k_is | kernel_rfl)
  (case e2g => k_is)
  (case e2k => k_is)
  (case hd2 => k_is)
  (case e2a => k_is)
  (case e2m => k_is)
  (case t2_100 => first | k_is | kernel_rfl)
  (case t9_2 => first | k_is | kernel_rfl)
  (case e9g => k_is)
  (case e9k => k_is)
  (case hd9 => k_is)
  (case e9a => k_is)
  (case e9m => k_is)
  (case t9_100 => first | k_is | kernel_rfl)
  (case t11_2 => first | k_is | kernel_rfl)
  (case e11g => k_is)
  (case e11k => k_is)
  (case e11a => k_is)
  (case e11m => k_is)
  (case t11_100 => first | k_is | kernel_rfl)
  (case t16_2 => first | k_is | kernel_rfl)
  (case e16g => k_is)
  (case e16k => k_is)
  (case hd16 => k_is)
  (case e16a => k_is)
  (case e16m => k_is)
  (case t16_100 => first | k_is | kernel_rfl)
  (case en => k_is)
  (case et => k_is)
  (case n43_13 => k_is)
  (case n43_14 => k_is)
  (case n43_52 => k_is)
  (case n43_56 => k_is)
  (case n43_62 => k_is)
  (case n43_64 => k_is)
