import PyProof.Rows.All
import HandS.Ends
import PyProof.Rows.Digits
import HandS.ForMost
import HandS.ForExc
import HandS.Wide
import HandS.Gcd
import HandS.More
import HandS.Deep
import HandS.SetFor
import HandS.StrMore
import HandS.TupAny
import HandS.Zip
import HandS.Conv
import HandS.Rev
import PyProof.Rows.StrOr
import HandS.ExcCtx
import HandS.IsInst
import HandS.TryOnly
import HandS.Walk
import KE.GoesMore
import HandS.Flow
import HandS.HeadWalk
import HandS.MakeKwOnly
import HandS.ExcInit
import HandS.ExcField
import HandS.ExcIs
import HandS.Strs
import HandS.SetKeys
import HandS.TryMany
import HandS.Dict
import HandS.Property
import HandS.HotCalls
import HandS.Defaults
import HandS.EndBits
import PySem.Challenge.RW_unbent_k06_systems_judged
set_option Elab.async false
set_option linter.all false
set_option maxRecDepth 100000
set_option maxHeartbeats 4000000
namespace Mn
open PySem L2 PySem.Spec PyProof.Rows
section
variable {P : Program} {w : World} {K : PySem.W.Frag} {mg mb : Str → Option Value} {CX : CXT} {k : Nat} {fa a : Addr} {fd : FuncData} {x : Str} {sp : Sp} {st : Shared} {vs : List Value} {ns : List Int}
theorem law_under {H : Hp} (kx : K.In st.heap) (n1 : st.heap.Ns mainGlobals mg) (n2 : st.heap.Ns builtinsNs mb) (bb : ∀ y : Str, y ≠ "__name__" → mb y = bootBuiltins y) (nl : st.heap.NoLimit) (nd : st.heap.NoDigits) (ng : st.gens = #[])
    (oa : st.heap.get? a = some { cls := .type "list", data := .seq vs.toArray }) (rm : Room k callerA) (F : ∀ base : Heap, K.In base → base.NoDigits → FnOk P w K mg base CX k fa fd [x] sp) (bd : ∀ (s : Shared) (u : Value), BindsTo s fd ⟨[u], []⟩ [(x, u)])
    (only : Only H) (q : sp [.ref a] H (fun v _ => v = .bl true) fun _ _ _ => False) (hok : HOk P w H st.heap) (alone : ∀ b, b ≠ a → H b = none) (apart : ∀ o, K.lookup a = some o → H a = none) (cx : ∀ e s', CX [] H st (fun _ _ _ => False) e s' → False) :
    codeAny (model P w) callerA (.call (.ref fa) ⟨[.ref a], []⟩) (fun r s' => r = .ok (.ret (.bool true)) ∧ OldK st.heap s'.heap ∧ s'.os = st.os ∧ AllBare s'.gens) st := by
  have dicts : ∀ {b : Addr} {m : Str → Option Value}, st.heap.Ns b m → (hidT st.heap H).Ns b m := by
    rintro b m ⟨o, es, ep, g, d, r⟩
    refine ⟨o, es, ep, hidT_get g (alone b ?_), d, r⟩
    rintro rfl
    rw [oa] at g
    cases g
    cases d
  have kin : K.In (hidT st.heap H) := fun b o l => hidT_get (kx b o l) (by
    by_cases e : b = a
    · subst e; exact apart o l
    · exact alone b e)
  have lim : (hidT st.heap H).NoLimit := nl.imp fun _ z => ⟨dicts z.1, z.2⟩
  have dig : (hidT st.heap H).NoDigits := nd.imp fun _ z => ⟨dicts z.1, z.2⟩
  have env : Env0 P w K mg (hidT st.heap H) callerA [] st H := ⟨rfl, ⟨kin, dicts n1, ⟨mb, dicts n2, bb⟩, lim⟩, fun _ _ z => of_hidT z, Nat.le_of_eq (hidT_size _ _), trivial, fun _ z => absurd z List.not_mem_nil, hok, .of_eq ng⟩
  refine codeAny_mono ((F _ kin dig).run callerA [] st H ⟨[.ref a], []⟩ [.ref a] [.ref a] _ _ rm env (bd st (.ref a)) (.cons rfl .nil) q) fun r s' z => ?_
  match r, z with
  | .error e, z => exact (cx e s' z).elim
  | .ok .next, z => exact z.elim
  | .ok .brk, z => exact z.elim
  | .ok .cont, z => exact z.elim
  | .ok (.ret u), ⟨v, H', os, bare, un, hok', rv, ev⟩ =>
    cases (show v = V.bl true from ev)
    cases (show u = Value.bool true from rv)
    refine ⟨rfl, OldK.of_keep fun b o g => ?_, os, bare⟩
    rcases only b with n | ⟨ob, l, n⟩
    · exact un.keep b o g n (fun z => nomatch z) List.not_mem_nil
    · have g1 := (hok b _ n).1
      rw [g] at g1
      cases g1
      exact (hok' b _ (un.frzs b o _ n)).1
theorem law_callD (kx : K.In st.heap) (n1 : st.heap.Ns mainGlobals mg) (n2 : st.heap.Ns builtinsNs mb) (bb : ∀ y : Str, y ≠ "__name__" → mb y = bootBuiltins y) (nl : st.heap.NoLimit) (nd : st.heap.NoDigits) (ng : st.gens = #[])
    (oa : st.heap.get? a = some { cls := .type "list", data := .seq vs.toArray }) (hi : IntsAre vs ns) (hl : ns.length ≤ sizeLine) (rm : Room k callerA) (F : ∀ base : Heap, K.In base → base.NoDigits → FnOk P w K mg base CX k fa fd [x] sp) (bd : ∀ (s : Shared) (u : Value), BindsTo s fd ⟨[u], []⟩ [(x, u)])
    (hsp : ∀ H : Hp, Only H → SqL K H a (ns.map V.int) → sp [.ref a] H (fun v _ => v = .bl true) fun _ _ _ => False) (cx : ∀ H e s', CX [] H st (fun _ _ _ => False) e s' → False) :
    codeAny (model P w) callerA (.call (.ref fa) ⟨[.ref a], []⟩) (fun r s' => r = .ok (.ret (.bool true)) ∧ OldK st.heap s'.heap ∧ s'.os = st.os ∧ AllBare s'.gens) st := by
  by_cases own : ∃ o, K.lookup a = some o
  · obtain ⟨o, own⟩ := own
    have e := kx a o own
    rw [oa] at e
    cases e
    have none : Only fun _ => none := fun _ => .inl rfl
    exact law_under kx n1 n2 bb nl nd ng oa rm F bd none (hsp _ none (.inr ⟨_, vs.toArray, _, own, rfl, rfl, rfl, by rw [List.size_toArray, hi.length]; exact hl, by simpa using vals_ints hi⟩)) (fun _ _ z => nomatch z) (fun _ _ => rfl) (fun _ _ => rfl) (cx _)
  · have at_ : ∀ b, (if b = a then some (HO.frz { cls := .type "list", data := .seq vs.toArray } (.lst (ns.map V.int))) else none) = none ∨ b = a := fun b => by
      by_cases e : b = a
      · exact .inr e
      · exact .inl (if_neg e)
    have frz : Only fun b => if b = a then some (HO.frz { cls := .type "list", data := .seq vs.toArray } (.lst (ns.map V.int))) else none := fun b => (at_ b).imp id fun e => ⟨_, _, if_pos e⟩
    refine law_under kx n1 n2 bb nl nd ng oa rm F bd frz (hsp _ frz (.inl (.inr ⟨_, if_pos rfl⟩))) (fun b u z => ?_) (fun b e => if_neg e) (fun o l => absurd ⟨o, l⟩ own) (cx _)
    rcases at_ b with e | rfl
    · exact absurd (e.symm.trans z) (fun y => nomatch y)
    · cases (if_pos rfl).symm.trans z
      exact ⟨oa, by rw [List.length_map]; exact hl, vs, _, vals_ints hi, oa⟩
end
end Mn
namespace Mn
open PySem
inductive D where
  | non | bl (b : Bool) | int (i : Int) | str (s : Str) | tup (ds : List D) | ref (n : Nat) | rg (lo hi : Int)
  deriving Inhabited
inductive O where
  | lst (ds : List D)
  | frz (ds : List D)
  | ins (c : Nat) (fs : List (Nat × D))
  deriving Inhabited
abbrev Hh := List O
structure Xc where
  cls : Nat
  fs : List (Nat × D) := []
inductive R (α : Type) where
  | ok (a : α) (h : Hh) | exc (x : Xc) (h : Hh) | stuck
def R.bind {α β : Type} : R α → (α → Hh → R β) → R β
  | .ok a h, f => f a h
  | .exc x h, _ => .exc x h
  | .stuck, _ => .stuck
inductive F where
  | nx | bk | ct | rt (d : D)
abbrev Ev := List (Option D)
inductive RS where
  | go (f : F) (e : Ev) (h : Hh) | exc (x : Xc) (e : Ev) (h : Hh) | stuck
def R.toS {α : Type} : R α → Ev → (α → Hh → RS) → RS
  | .ok a h, _, f => f a h
  | .exc x h, e, _ => .exc x e h
  | .stuck, _, _ => .stuck
abbrev ED := Ev → Hh → R D
abbrev TD := Ev → Hh → R Bool
abbrev AD := Ev → Hh → R (List D)
abbrev SD := Ev → Hh → RS
abbrev FD := List D → Hh → R D
def lstAt (h : Hh) (n : Nat) : Option (List D) := match h[n]? with
  | some (.lst ds) => some ds
  | some (.frz ds) => some ds
  | _ => none
abbrev szl : Nat := 16777216
def allS (f : D → Option PyData) : List D → Option (List PyData)
  | [] => some []
  | d :: ds => match f d, allS f ds with
    | some x, some xs => some (x :: xs)
    | _, _ => none
def toPD (h : Hh) : Nat → D → Option PyData
  | _, .non => some .none
  | _, .bl b => some (.bool b)
  | _, .int i => some (.int i)
  | _, .str s => some (.str s)
  | _, .rg _ _ => none
  | 0, _ => none
  | k + 1, .tup ds => (allS (toPD h k) ds).map .tuple
  | k + 1, .ref n => match lstAt h n with
    | some ds => (allS (toPD h k) ds).map .list
    | none => none
abbrev cMul (i j : Int) : Prop := i.natAbs.log2 + j.natAbs.log2 < 100000000
abbrev cDiv (j : Int) : Prop := j ≠ 0 ∧ j.natAbs.log2 < 9000
abbrev cPow (i j : Int) : Prop := 0 ≤ j ∧ j ≤ 1000000 ∧ i.natAbs < 2 ^ 64
def repS (a : Str) (k : Nat) : Str := ⟨(List.replicate k a.cps).foldl (· ++ ·) #[]⟩
def bop : Operator → D → D → Hh → R D
  | .Add, .int i, .int j, h => .ok (.int (i + j)) h
  | .Sub, .int i, .int j, h => .ok (.int (i - j)) h
  | .Mult, .int i, .int j, h => if cMul i j then .ok (.int (i * j)) h else .stuck
  | .FloorDiv, .int i, .int j, h => if cDiv j then .ok (.int (i.fdiv j)) h else .stuck
  | .Mod, .int i, .int j, h => if j ≠ 0 then .ok (.int (i.fmod j)) h else .stuck
  | .Pow, .int i, .int j, h => if cPow i j then .ok (.int (i ^ j.toNat)) h else .stuck
  | .LShift, .int i, .int j, h => if cPow i j then .ok (.int (i * 2 ^ j.toNat)) h else .stuck
  | .RShift, .int i, .int j, h => if 0 ≤ j then .ok (.int (i / 2 ^ j.toNat)) h else .stuck
  | .BitAnd, .int i, .int j, h => .ok (.int (Builtin.bitAnd i j)) h
  | .BitOr, .int i, .int j, h => .ok (.int (Builtin.bitOr i j)) h
  | .Add, .str a, .str b, h => if a.length + b.length ≤ szl then .ok (.str (a ++ b)) h else .stuck
  | .Add, .tup a, .tup b, h => if a.length + b.length ≤ szl then .ok (.tup (a ++ b)) h else .stuck
  | .Add, .ref m, .ref n, h => match h[m]?, h[n]? with
    | some (.lst a), some (.lst b) => if a.length + b.length ≤ szl then .ok (.ref h.length) (h ++ [.lst (a ++ b)]) else .stuck
    | _, _ => .stuck
  | .Mult, .ref m, .int k, h => match h[m]? with
    | some (.lst a) => if -(2 ^ 63) ≤ k ∧ k < 2 ^ 63 ∧ a.length * k.toNat ≤ szl then .ok (.ref h.length) (h ++ [.lst (List.replicate k.toNat a).flatten]) else .stuck
    | _ => .stuck
  | .Mult, .str a, .int k, h => if 2 ≤ k ∧ k ≤ 10000 ∧ 1 ≤ a.length ∧ a.length ≤ 1000 then .ok (.str (repS a k.toNat)) h else .stuck
  | _, _, _, _ => .stuck
def uop : UnaryOp → D → Hh → R D
  | .USub, .int i, h => .ok (.int (-i)) h
  | _, _, _ => .stuck
def flatD : D → Bool
  | .non | .bl _ | .int _ | .str _ => true
  | _ => false
def eqF : D → D → Bool
  | .non, .non => true
  | .bl a, .bl b => a == b
  | .bl a, .int j => (if a then 1 else 0) == j
  | .int i, .bl b => i == (if b then 1 else 0)
  | .int i, .int j => i == j
  | .str a, .str b => a == b
  | _, _ => false
def eqD (h : Hh) (x y : D) : Option Bool := match x, y with
  | .int i, .int j => some (decide (i = j))
  | .str a, .str b => some (decide (a = b))
  | .bl a, .bl b => some (decide (a = b))
  | x, y => match toPD h 12 x, toPD h 12 y with
    | some a, some b => if SeqAt.shaped a = true ∧ SeqAt.shaped b = true then some (PyData.eqv a b) else none
    | _, _ => none
def inD (h : Hh) (x : D) (ys : List D) : Option Bool :=
  if flatD x = true ∧ ys.all flatD = true then some (ys.any fun y => eqF y x) else none
def inS (h : Hh) (x c : D) : Option Bool := match toPD h 12 c, toPD h 12 x with
  | some (.list ps), some p => if SeqAt.shaped p = true ∧ SeqAt.shaped (.list ps) = true then some (ps.any fun z => PyData.eqv z p) else none
  | some (.tuple ps), some p => if SeqAt.shaped p = true ∧ SeqAt.shaped (.tuple ps) = true then some (ps.any fun z => PyData.eqv z p) else none
  | _, _ => none
def inA (h : Hh) (x c : D) (ys : List D) : Option Bool := match inD h x ys with
  | some b => some b
  | none => inS h x c
def isNon : D → Bool
  | .non => true
  | _ => false
def ofB (o : Option Bool) (f : Bool → Bool) (h : Hh) : R D := match o with
  | some b => .ok (.bl (f b)) h
  | none => .stuck
def bcmp : CmpOp → D → D → Hh → R D
  | .Eq, x, y, h => ofB (eqD h x y) id h
  | .NotEq, x, y, h => ofB (eqD h x y) not h
  | .Lt, .int i, .int j, h => .ok (.bl (decide (i < j))) h
  | .LtE, .int i, .int j, h => .ok (.bl (decide (i ≤ j))) h
  | .Gt, .int i, .int j, h => .ok (.bl (decide (j < i))) h
  | .GtE, .int i, .int j, h => .ok (.bl (decide (j ≤ i))) h
  | .Is, x, .non, h => .ok (.bl (isNon x)) h
  | .IsNot, x, .non, h => .ok (.bl (!isNon x)) h
  | .In, .str a, .str b, h => .ok (.bl (!(Builtin.Str.occurrences b a 0 b.length 1).isEmpty)) h
  | .NotIn, .str a, .str b, h => .ok (.bl (!(!(Builtin.Str.occurrences b a 0 b.length 1).isEmpty))) h
  | .In, x, .ref n, h => match lstAt h n with
    | some ys => ofB (inA h x (.ref n) ys) id h
    | none => .stuck
  | .In, x, .tup ys, h => ofB (inA h x (.tup ys) ys) id h
  | .NotIn, x, .ref n, h => match lstAt h n with
    | some ys => ofB (inA h x (.ref n) ys) not h
    | none => .stuck
  | .NotIn, x, .tup ys, h => ofB (inA h x (.tup ys) ys) not h
  | .Is, .bl a, .bl b, h => .ok (.bl (a == b)) h
  | .IsNot, .bl a, .bl b, h => .ok (.bl (!(a == b))) h
  | .LtE, .str a, .str b, h => .ok (.bl (!decide (b.cps.toList < a.cps.toList))) h
  | .Lt, .str a, .str b, h => .ok (.bl (decide (a.cps.toList < b.cps.toList))) h
  | _, _, _, _ => .stuck
def truth : D → Hh → Option Bool
  | .non, _ => some false
  | .bl b, _ => some b
  | .int i, _ => some (i != 0)
  | .ref n, h => (lstAt h n).map fun ds => !ds.isEmpty
  | _, _ => none
def ixD : D → D → Hh → R D
  | .tup ds, .int i, h => match L2.atI ds i with
    | some d => .ok d h
    | none => .stuck
  | .ref n, .int i, h => match lstAt h n with
    | some ds => match L2.atI ds i with
      | some d => .ok d h
      | none => .stuck
    | none => .stuck
  | .str z, .int i, h => if z.length ≤ szl then match L2.atI z.cps.toList i with
      | some c => .ok (.str ⟨#[c]⟩) h
      | none => .stuck
    else .stuck
  | _, _, _ => .stuck
def setD : D → D → D → Hh → R Unit
  | .ref n, .int i, v, h => match h[n]? with
    | some (.lst ds) => match L2.ixN ds.length i with
      | some j => .ok () (h.set n (.lst (ds.set j v)))
      | none => .stuck
    | _ => .stuck
  | _, _, _, _ => .stuck
def dK : ED := fun _ _ => .stuck
def dC (d : D) : ED := fun _ h => .ok d h
def dV (i : Nat) : ED := fun e h => match e[i]? with
  | some (some d) => .ok d h
  | _ => .stuck
def dB (op : Operator) (a b : ED) : ED := fun e h => (a e h).bind fun x h1 => (b e h1).bind fun y h2 => bop op x y h2
def dU (op : UnaryOp) (a : ED) : ED := fun e h => (a e h).bind fun x h1 => uop op x h1
def dCmp (op : CmpOp) (a b : ED) : ED := fun e h => (a e h).bind fun x h1 => (b e h1).bind fun y h2 => bcmp op x y h2
def blOf (d : D) (h : Hh) (k : Bool → Hh → R α) : R α := match d with
  | .bl b => k b h
  | _ => .stuck
def dCh (op op' : CmpOp) (a b c : ED) : ED := fun e h => (a e h).bind fun x h1 => (b e h1).bind fun y h2 => (bcmp op x y h2).bind fun z h3 => blOf z h3 fun k h3 =>
  if k then (c e h3).bind fun w h4 => bcmp op' y w h4 else .ok (.bl false) h3
def dIf (t : TD) (a b : ED) : ED := fun e h => (t e h).bind fun k h1 => if k then a e h1 else b e h1
def dIx (a b : ED) : ED := fun e h => (a e h).bind fun x h1 => (b e h1).bind fun y h2 => ixD x y h2
def aN : AD := fun _ h => .ok [] h
def aC (a : ED) (r : AD) : AD := fun e h => (a e h).bind fun d h1 => (r e h1).bind fun ds h2 => .ok (d :: ds) h2
def dTup (a : AD) : ED := fun e h => (a e h).bind fun ds h1 => if ds.length ≤ szl then .ok (.tup ds) h1 else .stuck
def dLst (a : AD) : ED := fun e h => (a e h).bind fun ds h1 => if ds.length ≤ szl then .ok (.ref h1.length) (h1 ++ [.lst ds]) else .stuck
def dCall (f : FD) (a : AD) (dv : List D) : ED := fun e h => (a e h).bind fun ds h1 => f (ds ++ dv) h1
def tK : TD := fun _ _ => .stuck
def tE (a : ED) : TD := fun e h => (a e h).bind fun x h1 => match truth x h1 with
  | some b => .ok b h1
  | none => .stuck
def tB (a : ED) : TD := fun e h => (a e h).bind fun x h1 => blOf x h1 fun k h1 => .ok k h1
def tNot (t : TD) : TD := fun e h => (t e h).bind fun k h1 => .ok (!k) h1
def tAnd (t u : TD) : TD := fun e h => (t e h).bind fun k h1 => if k then u e h1 else .ok false h1
def tOr (t u : TD) : TD := fun e h => (t e h).bind fun k h1 => if k then .ok true h1 else u e h1
def tY : TD := fun _ h => .ok true h
structure Sq where
  items : List D
  src : List (Nat × List D)
abbrev ID := Ev → Hh → R Sq
def srcOk (src : List (Nat × List D)) (h : Hh) : Prop := ∀ p ∈ src, lstAt h p.1 = some p.2
def rngD (lo : Int) (n : Nat) : List D := (List.range n).map fun (i : Nat) => .int (lo + (i : Int))
def rng (lo hi : Int) (h : Hh) : R Sq := if -(2 ^ 62) ≤ lo ∧ lo < 2 ^ 62 ∧ -(2 ^ 62) ≤ hi ∧ hi < 2 ^ 62 then .ok ⟨rngD lo (hi - lo).toNat, []⟩ h else .stuck
def iSeq (a : ED) : ID := fun e h => (a e h).bind fun x h1 => match x with
  | .tup ds => .ok ⟨ds, []⟩ h1
  | .str z => .ok ⟨z.cps.toList.map fun c => .str ⟨#[c]⟩, []⟩ h1
  | .ref n => match lstAt h1 n with
    | some ds => .ok ⟨ds, [(n, ds)]⟩ h1
    | none => .stuck
  | .rg lo hi => rng lo hi h1
  | _ => .stuck
def iRange1 (a : ED) : ID := fun e h => (a e h).bind fun x h1 => match x with
  | .int hi => rng 0 hi h1
  | _ => .stuck
def iRange2 (a b : ED) : ID := fun e h => (a e h).bind fun x h1 => (b e h1).bind fun y h2 => match x, y with
  | .int lo, .int hi => rng lo hi h2
  | _, _ => .stuck
def iEnum (a : ED) : ID := fun e h => (a e h).bind fun x h1 => match x with
  | .tup ds => .ok ⟨ds.zipIdx.map fun p => .tup [.int (p.2 : Nat), p.1], []⟩ h1
  | .ref n => match lstAt h1 n with
    | some ds => .ok ⟨ds.zipIdx.map fun p => .tup [.int (p.2 : Nat), p.1], [(n, ds)]⟩ h1
    | none => .stuck
  | _ => .stuck
def iZip (a b : ED) : ID := fun e h => (a e h).bind fun x h1 => (b e h1).bind fun y h2 => match x, y with
  | .tup ds, .tup es => .ok ⟨List.zipWith (fun x y => .tup [x, y]) ds es, []⟩ h2
  | .ref m, .ref n => match lstAt h2 m, lstAt h2 n with
    | some ds, some es => .ok ⟨List.zipWith (fun x y => .tup [x, y]) ds es, [(m, ds), (n, es)]⟩ h2
    | _, _ => .stuck
  | _, _ => .stuck
def iRev (a : ED) : ID := fun e h => (a e h).bind fun x h1 => match x with
  | .ref n => match lstAt h1 n with
    | some ds => .ok ⟨ds.reverse, [(n, ds)]⟩ h1
    | none => .stuck
  | _ => .stuck
abbrev Tg := D → Ev → Option Ev
def gN (i : Nat) : Tg := fun d e => some (e.set i (some d))
def gT (is : List Nat) : Tg := fun d e => match d with
  | .tup ds => if ds.length = is.length then some ((is.zip ds).foldl (fun e p => e.set p.1 (some p.2)) e) else none
  | _ => none
def wipe (e : Ev) : List Nat → Ev
  | [] => e
  | v :: vs => (wipe e vs).set v none
open Classical in
noncomputable def lcGo (src : List (Nat × List D)) (tg : Tg) (t : TD) (el : ED) (e : Ev) (p : Nat) : List D → Hh → R D
  | [], h => if srcOk src h then .ok (.ref p) h else .stuck
  | d :: r, h => if srcOk src h then match tg d e with
      | some e1 => match t e1 h with
        | .ok false h1 => lcGo src tg t el e p r h1
        | .ok true h1 => match el e1 h1 with
          | .ok y h2 => match h2[p]? with
            | some (.lst acc) => if acc.length < szl then lcGo src tg t el e p r (h2.set p (.lst (acc ++ [y]))) else .stuck
            | _ => .stuck
          | _ => .stuck
        | _ => .stuck
      | none => .stuck
    else .stuck
noncomputable def dLc (it : ID) (tg : Tg) (t : TD) (el : ED) (own : List Nat) : ED := fun e h => (it e h).bind fun sq h1 => lcGo sq.src tg t el (wipe e own) h1.length sq.items (h1 ++ [.lst []])
abbrev GD := D → Ev → Hh → R Ev
def sK : SD := fun _ _ => .stuck
def sNx : SD := fun e h => .go .nx e h
def sBk : SD := fun e h => .go .bk e h
def sCt : SD := fun e h => .go .ct e h
def sEx (a : ED) : SD := fun e h => (a e h).toS e fun _ h1 => .go .nx e h1
def sRt (a : ED) : SD := fun e h => (a e h).toS e fun d h1 => .go (.rt d) e h1
def sSq (s t : SD) : SD := fun e h => match s e h with
  | .go .nx e1 h1 => t e1 h1
  | r => r
def sIf (t : TD) (a b : SD) : SD := fun e h => (t e h).toS e fun k h1 => if k then a e h1 else b e h1
def ofG (g : Tg) : GD := fun d e h => match g d e with
  | some e1 => .ok e1 h
  | none => .stuck
def gIx (o i : ED) : GD := fun d e h => (o e h).bind fun x h1 => (i e h1).bind fun y h2 => (setD x y d h2).bind fun _ h3 => .ok e h3
def sAs (a : ED) (g : GD) : SD := fun e h => (a e h).toS e fun d h1 => (g d e h1).toS e fun e1 h2 => .go .nx e1 h2
open Classical in
noncomputable def forGo (src : List (Nat × List D)) (tg : Tg) (b : SD) : List D → Ev → Hh → RS
  | [], e, h => if srcOk src h then .go .nx e h else .stuck
  | d :: r, e, h => if srcOk src h then match tg d e with
      | some e1 => match b e1 h with
        | .go .nx e2 h2 => forGo src tg b r e2 h2
        | .go .ct e2 h2 => forGo src tg b r e2 h2
        | .go .bk e2 h2 => .go .nx e2 h2
        | r => r
      | none => .stuck
    else .stuck
noncomputable def sFor (it : ID) (tg : Tg) (b : SD) : SD := fun e h => (it e h).toS e fun sq h1 => forGo sq.src tg b sq.items e h1
def whGo (t : TD) (b : SD) : Nat → SD
  | 0, _, _ => .stuck
  | n + 1, e, h => (t e h).toS e fun k h1 => if k then match b e h1 with
      | .go .nx e2 h2 => whGo t b n e2 h2
      | .go .ct e2 h2 => whGo t b n e2 h2
      | .go .bk e2 h2 => .go .nx e2 h2
      | r => r
    else .go .nx e h1
def sRaise (c : Nat) : SD := fun e h => .exc ⟨c, []⟩ e h
structure Hd where
  cls : Nat
  slot : Option Nat
  suite : Xc → SD
def clr (e : Ev) : Option Nat → Ev
  | some i => e.set i none
  | none => e
def slotOk (e : Ev) : Option Nat → Bool
  | some i => decide (i < e.length)
  | none => true
def sTry (sub : Nat → Nat → Option Bool) (b : SD) (hd : Hd) : SD := fun e h => match b e h with
  | .exc x e1 h1 => match sub x.cls hd.cls with
    | some true => if slotOk e1 hd.slot = true then match hd.suite x (clr e1 hd.slot) h1 with
        | .go f e2 h2 => .go f (clr e2 hd.slot) h2
        | _ => .stuck
      else .stuck
    | some false => .exc x e1 h1
    | none => .stuck
  | r => r
def fnRun (b : SD) (n : Nat) : FD := fun ds h => match b (ds.map some ++ List.replicate (n - ds.length) none) h with
  | .go .nx _ h1 => .ok .non h1
  | .go (.rt d) _ h1 => .ok d h1
  | .exc x _ h1 => .exc x h1
  | _ => .stuck
def fLen : FD := fun ds h => match ds with
  | [.tup xs] => .ok (.int xs.length) h
  | [.ref n] => match lstAt h n with
    | some xs => .ok (.int xs.length) h
    | none => .stuck
  | [.str z] => if z.length ≤ szl then .ok (.int z.length) h else .stuck
  | _ => .stuck
def fAbs : FD := fun ds h => match ds with
  | [.int i] => .ok (.int (if i < 0 then -i else i)) h
  | _ => .stuck
def fInt : FD := fun ds h => match ds with
  | [.str a] => match PySem.intText? a with
    | some n => if a.length ≤ 640 then .ok (.int n) h else .stuck
    | none => .stuck
  | [.int i] => .ok (.int i) h
  | [.bl b] => .ok (.int (if b then 1 else 0)) h
  | _ => .stuck
def fStr : FD := fun ds h => match ds with
  | [.int i] => if i.natAbs.log2 < 1920 then .ok (.str (toString i)) h else .stuck
  | _ => .stuck
def fStrL : FD := fun ds h => match ds with
  | [.int i] => if i.natAbs < 10 ^ 4300 then .ok (.str (toString i)) h else .stuck
  | _ => .stuck
def fGcd : FD := fun ds h => match ds with
  | [.int a, .int b] => .ok (.int ((Nat.gcd a.natAbs b.natAbs : Nat) : Int)) h
  | _ => .stuck
def fList : FD := fun ds h => match ds with
  | [.ref n] => match lstAt h n with
    | some xs => .ok (.ref h.length) (h ++ [.lst xs])
    | none => .stuck
  | [.tup xs] => .ok (.ref h.length) (h ++ [.lst xs])
  | _ => .stuck
def fRng1 : FD := fun ds h => match ds with
  | [.int hi] => .ok (.rg 0 hi) h
  | _ => .stuck
def fTuple : FD := fun ds h => match ds with
  | [.ref n] => match lstAt h n with
    | some xs => .ok (.tup xs) h
    | none => .stuck
  | [.tup xs] => .ok (.tup xs) h
  | _ => .stuck
def intsOf : List D → Option (List Int)
  | [] => some []
  | .int i :: r => (intsOf r).map (i :: ·)
  | _ => none
def blsOf : List D → Option (List Bool)
  | [] => some []
  | .bl i :: r => (blsOf r).map (i :: ·)
  | _ => none
def fSum : FD := fun ds h => match ds with
  | [.ref n] => match (lstAt h n).bind intsOf with
    | some xs => .ok (.int xs.sum) h
    | none => .stuck
  | _ => .stuck
def fAll : FD := fun ds h => match ds with
  | [.ref n] => match (lstAt h n).bind blsOf with
    | some xs => .ok (.bl (xs.all id)) h
    | none => .stuck
  | _ => .stuck
def fAny : FD := fun ds h => match ds with
  | [.ref n] => match (lstAt h n).bind blsOf with
    | some xs => .ok (.bl (xs.any id)) h
    | none => .stuck
  | _ => .stuck
def fMax : FD := fun ds h => match ds with
  | [.int i, .int j] => .ok (.int (if j > i then j else i)) h
  | _ => .stuck
def fMin : FD := fun ds h => match ds with
  | [.int i, .int j] => .ok (.int (if j < i then j else i)) h
  | _ => .stuck
inductive Ty where
  | int | bool | str | tuple | list
def isTy (t : Ty) (d : D) (h : Hh) : Option Bool := match d with
  | .non => some false
  | .bl _ => some (match t with | .int => true | .bool => true | _ => false)
  | .int _ => some (match t with | .int => true | _ => false)
  | .str _ => some (match t with | .str => true | _ => false)
  | .tup _ => some (match t with | .tuple => true | _ => false)
  | .ref n => (lstAt h n).map fun _ => (match t with | .list => true | _ => false)
  | .rg _ _ => none
def dIs (t : Ty) (a : ED) : ED := fun e h => (a e h).bind fun x h1 => ofB (isTy t x h1) id h1
def mAppend (x : D) (ds : List D) (h : Hh) : R D := match x, ds with
  | .ref n, [d] => match h[n]? with
    | some (.lst xs) => if xs.length < szl then .ok .non (h.set n (.lst (xs ++ [d]))) else .stuck
    | _ => .stuck
  | _, _ => .stuck
def mPop (x : D) (ds : List D) (h : Hh) : R D := match x, ds with
  | .ref n, [] => match h[n]? with
    | some (.lst xs) => match xs[xs.length - 1]? with
      | some y => .ok y (h.set n (.lst xs.dropLast))
      | none => .stuck
    | _ => .stuck
  | _, _ => .stuck
def chkL (x : D) (h : Hh) : Bool := match x with
  | .ref n => (lstAt h n).isSome
  | _ => false
def chkS (x : D) (_ : Hh) : Bool := match x with
  | .str _ => true
  | _ => false
def dM (c : D → Hh → Bool) (f : D → List D → Hh → R D) (a : ED) (as : AD) : ED := fun e h => (a e h).bind fun x h1 => if c x h1 = true then (as e h1).bind fun ds h2 => f x ds h2 else .stuck
def cutD (ds : List D) (lo hi : Option Int) : List D := (ds.drop (HT.sIx ds.length 0 lo)).take (HT.sIx ds.length ds.length hi - HT.sIx ds.length 0 lo)
def slD (x : D) (lo hi : Option Int) (h : Hh) : R D := match x with
  | .ref n => match lstAt h n with
    | some ds => .ok (.ref h.length) (h ++ [.lst (cutD ds lo hi)])
    | none => .stuck
  | .tup ds => .ok (.tup (cutD ds lo hi)) h
  | .str z => if z.length ≤ szl then .ok (.str (L2.cutS z lo hi)) h else .stuck
  | _ => .stuck
abbrev OD := Ev → Hh → R (Option Int)
def oN : OD := fun _ h => .ok none h
def oS (a : ED) : OD := fun e h => (a e h).bind fun x h1 => match x with
  | .int i => .ok (some i) h1
  | _ => .stuck
def dSl (a : ED) (lo hi : OD) : ED := fun e h => (a e h).bind fun x h1 => (lo e h1).bind fun l h2 => (hi e h2).bind fun u h3 => slD x l u h3
def mRev (x : D) (ds : List D) (h : Hh) : R D := match x, ds with
  | .ref n, [] => match h[n]? with
    | some (.lst xs) => .ok .non (h.set n (.lst xs.reverse))
    | _ => .stuck
  | _, _ => .stuck
def mPopAt (x : D) (ds : List D) (h : Hh) : R D := match x, ds with
  | .ref n, [.int i] => match h[n]? with
    | some (.lst xs) => if -(2 ^ 63) ≤ i ∧ i < 2 ^ 63 then match L2.ixN xs.length i with
      | some j => match xs[j]? with
        | some y => .ok y (h.set n (.lst (xs.eraseIdx j)))
        | none => .stuck
      | none => .stuck
      else .stuck
    | _ => .stuck
  | _, _ => .stuck
def mInsert (x : D) (ds : List D) (h : Hh) : R D := match x, ds with
  | .ref n, [.int i, d] => match h[n]? with
    | some (.lst xs) => if xs.length < szl ∧ 0 ≤ i ∧ i < 2 ^ 63 then .ok .non (h.set n (.lst (xs.take i.toNat ++ [d] ++ xs.drop i.toNat))) else .stuck
    | _ => .stuck
  | _, _ => .stuck
def mExtend (x : D) (ds : List D) (h : Hh) : R D := match x, ds with
  | .ref n, [.ref m] => match h[n]?, h[m]? with
    | some (.lst xs), some (.lst ys) => if xs.length + ys.length ≤ szl then .ok .non (h.set n (.lst (xs ++ ys))) else .stuck
    | _, _ => .stuck
  | _, _ => .stuck
def ixF (f : D → Bool) : List D → Option Nat
  | [] => none
  | d :: ds => if f d = true then some 0 else (ixF f ds).map (· + 1)
def ixP (f : PyData → Bool) : List PyData → Option Nat
  | [] => none
  | d :: ds => if f d = true then some 0 else (ixP f ds).map (· + 1)
def mIndex (x : D) (ds : List D) (h : Hh) : R D := match x, ds with
  | .ref n, [y] => match lstAt h n with
    | some xs => if flatD y = true ∧ xs.all flatD = true then match ixF (fun z => eqF z y) xs with
        | some j => .ok (.int (j : Nat)) h
        | none => .stuck
      else match toPD h 12 (.ref n), toPD h 12 y with
        | some (.list ps), some p => if SeqAt.shaped (.list ps) = true ∧ SeqAt.shaped p = true then match ixP (fun z => PyData.eqv z p) ps with
            | some j => .ok (.int (j : Nat)) h
            | none => .stuck
          else .stuck
        | _, _ => .stuck
    | none => .stuck
  | _, _ => .stuck
def mRemove (x : D) (ds : List D) (h : Hh) : R D := match x, ds with
  | .ref n, [.int k] => match h[n]? with
    | some (.lst xs) => match intsOf xs with
      | some is => match is.findIdx? (· == k) with
        | some j => .ok .non (h.set n (.lst ((is.eraseIdx j).map .int)))
        | none => .stuck
      | none => .stuck
    | _ => .stuck
  | _, _ => .stuck
def strsOf : List D → Option (List Str)
  | [] => some []
  | .str i :: r => (strsOf r).map (i :: ·)
  | _ => none
def mSplit (x : D) (ds : List D) (h : Hh) : R D := match x, ds with
  | .str a, [.str b] => if (b.length == 0) = false ∧ a.length + 2 ≤ szl then .ok (.ref h.length) (h ++ [.lst ((Txt.split a b).map .str)]) else .stuck
  | _, _ => .stuck
def mJoin (x : D) (ds : List D) (h : Hh) : R D := match x, ds with
  | .str a, [.ref n] => match (lstAt h n).bind strsOf with
    | some ys => if (ys.map (·.length)).sum + ys.length * a.length ≤ 16777216 then .ok (.str (Txt.join a ys)) h else .stuck
    | none => .stuck
  | _, _ => .stuck
def mRfind (x : D) (ds : List D) (h : Hh) : R D := match x, ds with
  | .str a, [.str b] => .ok (.int (Txt.rfind a b)) h
  | _, _ => .stuck
def mPart (x : D) (ds : List D) (h : Hh) : R D := match x, ds with
  | .str a, [.str b] => if (b.length == 0) = false ∧ a.length ≤ szl then .ok (.tup [.str (Txt.partition a b).1, .str (Txt.partition a b).2.1, .str (Txt.partition a b).2.2]) h else .stuck
  | _, _ => .stuck
def fLRev : FD := fun ds h => match ds with
  | [.ref n] => match lstAt h n with
    | some xs => .ok (.ref h.length) (h ++ [.lst xs.reverse])
    | none => .stuck
  | _ => .stuck
def fLRng : FD := fun ds h => match ds with
  | [.int n] => if -(2 ^ 62) ≤ n ∧ n < szl then .ok (.ref h.length) (h ++ [.lst (rngD 0 n.toNat)]) else .stuck
  | [.int lo, .int n] => if -(2 ^ 62) ≤ lo ∧ lo < 2 ^ 62 ∧ -(2 ^ 62) ≤ n ∧ n < 2 ^ 62 ∧ (n - lo).toNat ≤ szl then .ok (.ref h.length) (h ++ [.lst (rngD lo (n - lo).toNat)]) else .stuck
  | _ => .stuck
def fSorted : FD := fun ds h => match ds with
  | [.ref n] => match (lstAt h n).bind intsOf with
    | some is => if is.length < 64 then .ok (.ref h.length) (h ++ [.lst ((is.mergeSort (fun a b => decide (a ≤ b))).map .int)]) else .stuck
    | none => .stuck
  | _ => .stuck
def sPar (i j : Nat) (a b : ED) : SD := fun e h => (a e h).toS e fun v h1 => (b e h1).toS e fun w h2 => .go .nx ((e.set i (some v)).set j (some w)) h2
def getL (x y : D) (h : Hh) : R D := match x, y with
  | .ref n, .int i => match lstAt h n with
    | some ds => if 0 ≤ i ∧ i < 2 ^ 63 then match ds[i.toNat]? with
      | some d => .ok d h
      | none => .stuck
      else .stuck
    | none => .stuck
  | _, _ => .stuck
def sAugI (io : D → D → Hh → R D) (x i a : ED) : SD := fun e h => (x e h).toS e fun o h1 => (i e h1).toS e fun k h2 => (getL o k h2).toS e fun v h3 => (a e h3).toS e fun w h4 => (io v w h4).toS e fun z h5 => (setD o k z h5).toS e fun _ h6 => .go .nx e h6
def noX {α : Type} : R α → R α
  | .exc _ _ => .stuck
  | r => r
open Classical in
noncomputable def lc2Go (src : List (Nat × List D)) (tg : Tg) (t : TD) (it1 : ID) (tg1 : Tg) (t1 : TD) (el : ED) (e : Ev) (vs1 : List Nat) (p : Nat) : List D → Hh → R D
  | [], h => if srcOk src h then .ok (.ref p) h else .stuck
  | d :: r, h => if srcOk src h then match tg d e with
      | some e1 => match t e1 h with
        | .ok false h1 => lc2Go src tg t it1 tg1 t1 el e vs1 p r h1
        | .ok true h1 => (noX (it1 e1 h1)).bind fun sq h2 => (lcGo sq.src tg1 t1 el (wipe e1 vs1) p sq.items h2).bind fun _ h3 => lc2Go src tg t it1 tg1 t1 el e vs1 p r h3
        | _ => .stuck
      | none => .stuck
    else .stuck
noncomputable def dLc2 (it : ID) (tg : Tg) (t : TD) (it1 : ID) (tg1 : Tg) (t1 : TD) (el : ED) (own vs1 : List Nat) : ED := fun e h => (it e h).bind fun sq h1 => lc2Go sq.src tg t it1 tg1 t1 el (wipe e own) vs1 h1.length sq.items (h1 ++ [.lst []])
def fnames : List Str := (["_answers", "_delivered", "_fuse", "_games", "_letters", "_lines", "_machines", "_notes", "_power", "_rounds", "_rules", "_text", "accepted", "agents", 
  "aim", "answered", "attempt", "ballot", "basis", "best", "bidders", "book_body", "boot", "closing", "columns", "commit", "commits", "contents", "cuts", 
  "decided", "desk", "endless", "first_helper", "free", "gains", "game", "goal", "handed", "header", "held", "high", "honest", "item", "journal", "kept", 
  "key", "known_keys", "leaves", "limit", "line", "lines", "list_body", "lots", "low", "machine", "member", "needs", "nodes", "notary", "noted", 
  "number", "opens", "outcomes", "parties", "payments", "place", "price", "profile", "promised", "reason", "report", "round_number", "rows", "rule", 
  "rule_name", "sent", "shares", "signed", "terms_number", "text", "told", "tree", "turns", "value", "variables", "whole"] : List String).map Str.ofString
def fnm (i : Nat) : Str := fnames.getD i ""
def putA {α : Type} (f : Nat) (v : α) : List (Nat × α) → List (Nat × α)
  | [] => [(f, v)]
  | (g, x) :: r => if g = f then (g, v) :: r else (g, x) :: putA f v r
def insAt (h : Hh) : D → Option (Nat × List (Nat × D))
  | .ref n => match h[n]? with
    | some (.ins c fs) => some (c, fs)
    | _ => none
  | _ => none
def fldD (f : Nat) (x : D) (h : Hh) : R D := match insAt h x with
  | some (_, fs) => match fs.lookup f with
    | some d => .ok d h
    | none => .stuck
  | none => .stuck
def dFld (f : Nat) (a : ED) : ED := fun e h => (a e h).bind fun x h1 => fldD f x h1
def putD (na : Nat → List Nat) (f : Nat) (x v : D) (h : Hh) : R Unit := match x with
  | .ref n => match h[n]? with
    | some (.ins c fs) => if (na c).elem f = true ∧ fs.length < 900 then .ok () (h.set n (.ins c (putA f v fs))) else .stuck
    | _ => .stuck
  | _ => .stuck
def sFl (na : Nat → List Nat) (f : Nat) (o a : ED) : SD := fun e h => (a e h).toS e fun v h1 => (o e h1).toS e fun x h2 => (putD na f x v h2).toS e fun _ h3 => .go .nx e h3
def sAugF (na : Nat → List Nat) (f : Nat) (io : D → D → Hh → R D) (o a : ED) : SD := fun e h => (o e h).toS e fun x h1 => (fldD f x h1).toS e fun v h2 => (a e h2).toS e fun w h3 => (io v w h3).toS e fun z h4 => if (insAt h4 x).map (·.1) = (insAt h2 x).map (·.1) then (putD na f x z h4).toS e fun _ h5 => .go .nx e h5 else .stuck
def dMe (ms : List (Nat × FD)) (o : ED) (as : AD) : ED := fun e h => (o e h).bind fun x h1 => match insAt h1 x with
  | some (c, _) => match ms.lookup c with
    | some f => (as e h1).bind fun ds h2 => f (x :: ds) h2
    | none => .stuck
  | none => .stuck
def mkD (c : Nat) (f : FD) (ds : List D) (h : Hh) : R D := (f (.ref h.length :: ds) (h ++ [.ins c []])).bind fun r h2 => match r with
  | .non => .ok (.ref h.length) h2
  | _ => .stuck
def dMk (c : Nat) (f : FD) (as : AD) (dv : List D) : ED := fun e h => (as e h).bind fun ds h1 => mkD c f (ds ++ dv) h1
inductive KP where
  | p (i : Nat) | k (i : Nat) | c (i : Nat)
def KP.gt {α : Type} (us mv ws : List α) : KP → Option α
  | .p i => us[i]?
  | .k i => ws[i]?
  | .c i => mv[i]?
def gKP (kp : List KP) {α : Type} (us mv ws : List α) : List α := kp.filterMap (KP.gt us mv ws)
def dMkK (c : Nat) (f : FD) (kp : List KP) (cs : List D) (as ks : AD) : ED := fun e h => (as e h).bind fun ds h1 => (ks e h1).bind fun zs h2 => (f (gKP kp (.ref h2.length :: ds) cs zs) (h2 ++ [.ins c []])).bind fun r h3 => match r with
  | .non => .ok (.ref h2.length) h3
  | _ => .stuck
def sRaiseA (c : Nat) (fs : List Nat) (as : AD) : SD := fun e h => (as e h).toS e fun ds h1 => if ds.length = fs.length then .exc ⟨c, (fs.zip ds).reverse⟩ e h1 else .stuck
def insL : List (Nat × List Nat) := [(40, [12, 15, 17, 42, 65]), (41, [20, 66, 81]), (42, [21, 26, 35, 45, 51, 58, 61, 71, 78]), (43, [13, 14, 52, 56, 62, 64]), (44, [13, 38, 56, 62]), (45, [0, 3, 5, 7, 9, 10]), (46, [2, 8, 11]), (47, [12, 16, 22, 29, 37, 39, 43, 59, 60, 68]), (48, [1, 4, 6]), (49, [30, 41, 46, 58, 63, 71, 75]), (50, [27, 46, 77]), (51, [21, 25, 35, 44, 45, 51, 55, 58, 70, 71, 73, 78]), (52, [33, 36, 72, 84]), (53, [23, 74, 80]), (54, [19, 31, 47, 57, 83, 85]), (55, [18, 24, 32, 34, 50, 82]), (56, [28, 40, 53, 76])]
def naT (c : Nat) : List Nat := (insL.lookup c).getD []
end Mn
namespace Mn
open PySem L2
abbrev Xs := Option (Nat × Addr × Xc × Option Addr)
structure Fx where
  K : PySem.W.Frag
  cv : Nat → Value
  fn : Nat → Str
  /-- the slot of the exception that is being handled, its address, its dict -/
  ex : Xs
mutual
inductive RD (K : PySem.W.Frag) (m : Nat → Addr) (N : Nat) (H : Hp) : D → V → Prop
  | non : RD K m N H .non .non
  | bl (b : Bool) : RD K m N H (.bl b) (.bl b)
  | int (i : Int) : RD K m N H (.int i) (.int i)
  | str (s : Str) : RD K m N H (.str s) (.str s)
  | tup {a : Addr} {ds : List D} {vs : List V} : SqT K H a vs → RDs K m N H ds vs → RD K m N H (.tup ds) (.ref a)
  | ref {n : Nat} : n < N → RD K m N H (.ref n) (.ref (m n))
  | rg {a : Addr} {lo hi : Int} : H a = some (.rng lo hi) → RD K m N H (.rg lo hi) (.ref a)
inductive RDs (K : PySem.W.Frag) (m : Nat → Addr) (N : Nat) (H : Hp) : List D → List V → Prop
  | nil : RDs K m N H [] []
  | cons {d : D} {v : V} {ds : List D} {vs : List V} : RD K m N H d v → RDs K m N H ds vs → RDs K m N H (d :: ds) (v :: vs)
end
structure TK (H H' : Hp) : Prop where
  tup : ∀ a xs, H a = some (.tup xs) → H' a = some (.tup xs)
  flst : ∀ a o xs, H a = some (.frz o (.lst xs)) → H' a = some (.frz o (.lst xs))
  ftup : ∀ a o xs, H a = some (.frz o (.tup xs)) → H' a = some (.frz o (.tup xs))
  xd : ∀ a fs, H a = some (.xd fs) → H' a = some (.xd fs)
  rg : ∀ a lo hi, H a = some (.rng lo hi) → H' a = some (.rng lo hi)
theorem TK.refl (H : Hp) : TK H H := ⟨fun _ _ h => h, fun _ _ _ h => h, fun _ _ _ h => h, fun _ _ h => h, fun _ _ _ h => h⟩
theorem TK.trans {H H1 H2 : Hp} (a : TK H H1) (b : TK H1 H2) : TK H H2 := ⟨fun _ _ h => b.tup _ _ (a.tup _ _ h), fun _ _ _ h => b.flst _ _ _ (a.flst _ _ _ h), fun _ _ _ h => b.ftup _ _ _ (a.ftup _ _ _ h), fun _ _ h => b.xd _ _ (a.xd _ _ h), fun _ _ _ h => b.rg _ _ _ (a.rg _ _ _ h)⟩
theorem TK.seq {K : PySem.W.Frag} {H H' : Hp} (t : TK H H') {a : Addr} {xs : List V} (h : SqT K H a xs) : SqT K H' a xs := by
  rcases h with (h | ⟨o, h⟩) | h
  · exact .inl (.inl (t.tup _ _ h))
  · exact .inl (.inr ⟨o, t.ftup _ _ _ h⟩)
  · exact .inr h
theorem TK.upd {H : Hp} {p : Addr} {o : HO} (h : H p = none) : TK H (upd H p o) :=
  ⟨fun a xs e => by rw [upd_ne (ne_of_none e h)]; exact e, fun a _ xs e => by rw [upd_ne (ne_of_none e h)]; exact e, fun a _ xs e => by rw [upd_ne (ne_of_none e h)]; exact e, fun a xs e => by rw [upd_ne (ne_of_none e h)]; exact e, fun a _ _ e => by rw [upd_ne (ne_of_none e h)]; exact e⟩
theorem TK.set {H : Hp} {p : Addr} {o u : HO} (h : H p = some u) (n1 : ∀ xs, u ≠ .tup xs) (n2 : ∀ o xs, u ≠ .frz o xs) (n3 : ∀ xs, u ≠ .xd xs) (n4 : ∀ lo hi, u ≠ .rng lo hi) : TK H (L2.upd H p o) :=
  ⟨fun a xs e => by rw [upd_ne (ne_of e h fun z => n1 xs z.symm)]; exact e, fun a o xs e => by rw [upd_ne (ne_of e h fun z => n2 o _ z.symm)]; exact e, fun a o xs e => by rw [upd_ne (ne_of e h fun z => n2 o _ z.symm)]; exact e, fun a xs e => by rw [upd_ne (ne_of e h fun z => n3 xs z.symm)]; exact e, fun a lo hi e => by rw [upd_ne (ne_of e h fun z => n4 lo hi z.symm)]; exact e⟩
section
variable {K : PySem.W.Frag} {m m' : Nat → Addr} {N N' : Nat} {H H' : Hp}
mutual
theorem RD.mono (t : TK H H') (e : ∀ n, n < N → m' n = m n) (hN : N ≤ N') : ∀ {d : D} {v : V}, RD K m N H d v → RD K m' N' H' d v
  | _, _, .non => .non
  | _, _, .bl b => .bl b
  | _, _, .int i => .int i
  | _, _, .str s => .str s
  | _, _, .tup h r => .tup (t.seq h) (RDs.mono t e hN r)
  | _, _, .ref h => by rw [← e _ h]; exact .ref (Nat.lt_of_lt_of_le h hN)
  | _, _, .rg h => .rg (t.rg _ _ _ h)
theorem RDs.mono (t : TK H H') (e : ∀ n, n < N → m' n = m n) (hN : N ≤ N') : ∀ {ds : List D} {vs : List V}, RDs K m N H ds vs → RDs K m' N' H' ds vs
  | _, _, .nil => .nil
  | _, _, .cons r rs => .cons (RD.mono t e hN r) (RDs.mono t e hN rs)
end
theorem RDs.length : ∀ {ds : List D} {vs : List V}, RDs K m N H ds vs → ds.length = vs.length
  | _, _, .nil => rfl
  | _, _, .cons _ r => congrArg Nat.succ (RDs.length r)
theorem RDs.get : ∀ {ds : List D} {vs : List V} {i : Nat} {d : D}, RDs K m N H ds vs → ds[i]? = some d → ∃ v, vs[i]? = some v ∧ RD K m N H d v
  | _, _, _, _, .nil, e => by simp at e
  | _, _, 0, _, .cons r _, e => by simp at e; subst e; exact ⟨_, rfl, r⟩
  | _, _, i + 1, d, .cons _ r, e => by
    obtain ⟨v, h1, h2⟩ := RDs.get (i := i) (d := d) r (by simpa using e)
    exact ⟨v, by simpa using h1, h2⟩
theorem RDs.getV : ∀ {ds : List D} {vs : List V} {i : Nat} {v : V}, RDs K m N H ds vs → vs[i]? = some v → ∃ d, ds[i]? = some d ∧ RD K m N H d v
  | _, _, _, _, .nil, e => by simp at e
  | _, _, 0, _, .cons r _, e => by simp at e; subst e; exact ⟨_, rfl, r⟩
  | _, _, i + 1, d, .cons _ r, e => by
    obtain ⟨v, h1, h2⟩ := RDs.getV (i := i) (v := d) r (by simpa using e)
    exact ⟨v, by simpa using h1, h2⟩
theorem RDs.append : ∀ {ds es : List D} {vs ws : List V}, RDs K m N H ds vs → RDs K m N H es ws → RDs K m N H (ds ++ es) (vs ++ ws)
  | _, _, _, _, .nil, s => s
  | _, _, _, _, .cons r t, s => .cons r (RDs.append t s)
theorem RDs.snoc {ds : List D} {vs : List V} {d : D} {v : V} (a : RDs K m N H ds vs) (b : RD K m N H d v) : RDs K m N H (ds ++ [d]) (vs ++ [v]) := a.append (.cons b .nil)
theorem RDs.set : ∀ {ds : List D} {vs : List V} {d : D} {v : V} (i : Nat), RD K m N H d v → RDs K m N H ds vs → RDs K m N H (ds.set i d) (vs.set i v)
  | _, _, _, _, _, _, .nil => .nil
  | _, _, _, _, 0, r, .cons _ t => .cons r t
  | _, _, _, _, i + 1, r, .cons q t => .cons q (RDs.set i r t)
theorem RDs.dropLast {ds : List D} {vs : List V} (r : RDs K m N H ds vs) : RDs K m N H ds.dropLast vs.dropLast := by
  induction r using RDs.rec (motive_1 := fun _ _ _ => True) with
  | nil => exact .nil
  | @cons d v ds vs a b _ ih =>
    cases b with
    | nil => exact .nil
    | cons a' b' => exact .cons a ih
  | _ => trivial
theorem RDs.reverse {ds : List D} {vs : List V} (r : RDs K m N H ds vs) : RDs K m N H ds.reverse vs.reverse := by
  induction r using RDs.rec (motive_1 := fun _ _ _ => True) with
  | nil => exact .nil
  | cons a b _ ih => rw [List.reverse_cons, List.reverse_cons]; exact ih.append (.cons a .nil)
  | _ => trivial
theorem RDs.take {ds : List D} {vs : List V} (n : Nat) (r : RDs K m N H ds vs) : RDs K m N H (ds.take n) (vs.take n) := by
  induction n generalizing ds vs with
  | zero => exact .nil
  | succ n ih => cases r with
    | nil => exact .nil
    | cons a b => exact .cons a (ih b)
theorem RDs.drop {ds : List D} {vs : List V} (n : Nat) (r : RDs K m N H ds vs) : RDs K m N H (ds.drop n) (vs.drop n) := by
  induction n generalizing ds vs with
  | zero => exact r
  | succ n ih => cases r with
    | nil => exact .nil
    | cons a b => exact ih b
theorem RDs.rep {ds : List D} {vs : List V} (r : RDs K m N H ds vs) : ∀ k : Nat, RDs K m N H (List.replicate k ds).flatten (List.replicate k vs).flatten
  | 0 => .nil
  | k + 1 => by rw [List.replicate_succ, List.replicate_succ, List.flatten_cons, List.flatten_cons]; exact r.append (RDs.rep r k)
end
def FzL (K : PySem.W.Frag) (H : Hp) (a : Addr) (vs : List V) : Prop := (∃ o, H a = some (.frz o (.lst vs))) ∨
  ∃ (o : Obj) (its : Array Value) (n : Nat), K.lookup a = some o ∧ o.cls = .type "list" ∧ o.dict = none ∧ o.data = .seq its n ∧ its.size ≤ sizeLine ∧ Vals vs its.toList
theorem FzL.seq {K : PySem.W.Frag} {H : Hp} {a : Addr} {vs : List V} (h : FzL K H a vs) : SqL K H a vs := by
  rcases h with ⟨o, h⟩ | h
  · exact .inl (.inr ⟨o, h⟩)
  · exact .inr h
theorem FzL.mono {K : PySem.W.Frag} {H H' : Hp} {a : Addr} {vs : List V} (t : TK H H') (h : FzL K H a vs) : FzL K H' a vs := by
  rcases h with ⟨o, h⟩ | h
  · exact .inl ⟨o, t.flst _ _ _ h⟩
  · exact .inr h
def isFz : O → Bool
  | .frz _ => true
  | _ => false
def RO (T : Fx) (m : Nat → Addr) (N : Nat) (H : Hp) (a : Addr) : O → Prop
  | .lst ds => ∃ vs, H a = some (.lst vs) ∧ RDs T.K m N H ds vs
  | .frz ds => ∃ vs, FzL T.K H a vs ∧ RDs T.K m N H ds vs
  | .ins c fs => ∃ C dx vs, T.cv c = .ref C ∧ H a = some (.ins C dx vs) ∧ Paired (fun (p : Nat × D) (q : Str × V) => q.1 = fnm p.1 ∧ RD T.K m N H p.2 q.2) fs vs ∧ Cls T.K C ∧ ∀ p ∈ fs, p.1 < fnames.length ∧ NoAttr T.K C (fnm p.1)
structure RH (T : Fx) (m : Nat → Addr) (h : Hh) (H : Hp) : Prop where
  obj : ∀ n o, h[n]? = some o → RO T m h.length H (m n) o
  inj : ∀ i j o u, h[i]? = some o → h[j]? = some u → isFz o = false → isFz u = false → m i = m j → i = j
structure Ge (m : Nat → Addr) (h : Hh) (H : Hp) (m' : Nat → Addr) (h' : Hh) (H' : Hp) : Prop where
  eq : ∀ n, n < h.length → m' n = m n
  le : h.length ≤ h'.length
  tk : TK H H'
theorem Ge.refl {m : Nat → Addr} {h : Hh} {H : Hp} : Ge m h H m h H := ⟨fun _ _ => rfl, Nat.le_refl _, TK.refl _⟩
theorem Ge.trans {m m1 m2 : Nat → Addr} {h h1 h2 : Hh} {H H1 H2 : Hp} (a : Ge m h H m1 h1 H1) (b : Ge m1 h1 H1 m2 h2 H2) : Ge m h H m2 h2 H2 :=
  ⟨fun n hn => (b.eq n (Nat.lt_of_lt_of_le hn a.le)).trans (a.eq n hn), Nat.le_trans a.le b.le, a.tk.trans b.tk⟩
theorem Ge.rd {K : PySem.W.Frag} {m m' : Nat → Addr} {h h' : Hh} {H H' : Hp} (g : Ge m h H m' h' H') {d : D} {v : V} (r : RD K m h.length H d v) : RD K m' h'.length H' d v := r.mono g.tk g.eq g.le
theorem Ge.rds {K : PySem.W.Frag} {m m' : Nat → Addr} {h h' : Hh} {H H' : Hp} (g : Ge m h H m' h' H') {d : List D} {v : List V} (r : RDs K m h.length H d v) : RDs K m' h'.length H' d v := r.mono g.tk g.eq g.le
def RXf (K : PySem.W.Frag) (m : Nat → Addr) (N : Nat) (H : Hp) (fs : List (Nat × D)) (dd : Option Addr) : Prop :=
  (fs = [] → dd = none) ∧ (fs ≠ [] → ∃ dx vs, dd = some dx ∧ H dx = some (.xd vs) ∧ Paired (fun (p : Nat × D) (q : Str × V) => q.1 = fnm p.1 ∧ RD K m N H p.2 q.2) fs vs)
theorem Ge.rxf {K : PySem.W.Frag} {m m' : Nat → Addr} {h h' : Hh} {H H' : Hp} (g : Ge m h H m' h' H') {fs : List (Nat × D)} {dd : Option Addr} (r : RXf K m h.length H fs dd) : RXf K m' h'.length H' fs dd :=
  ⟨r.1, fun n => let ⟨dx, vs, e1, e2, e3⟩ := r.2 n; ⟨dx, vs, e1, g.tk.xd _ _ e2, Paired.mapP e3 fun _ _ z => ⟨z.1, g.rd z.2⟩⟩⟩
structure RE (T : Fx) (m : Nat → Addr) (N : Nat) (H : Hp) (e : Ev) (σ : St) : Prop where
  len : e.length = σ.length
  at_ : ∀ (i : Nat) (d : D), e[i]? = some (some d) → ∃ v, σ[i]? = some (some v) ∧ RD T.K m N H d v
  exc : ∀ (i : Nat) (a : Addr) (x : Xc) (dd : Option Addr), T.ex = some (i, a, x, dd) → σ[i]? = some (some (.ref a)) ∧ RXf T.K m N H x.fs dd
def Nx (T : Fx) (i : Nat) : Prop := ∀ (j : Nat) (q : Addr × Xc × Option Addr), T.ex = some (j, q) → j ≠ i
theorem Ge.re {T : Fx} {m m' : Nat → Addr} {h h' : Hh} {H H' : Hp} (g : Ge m h H m' h' H') {e : Ev} {σ : St} (r : RE T m h.length H e σ) : RE T m' h'.length H' e σ :=
  ⟨r.len, fun i d x => let ⟨v, h1, h2⟩ := r.at_ i d x; ⟨v, h1, g.rd h2⟩, fun i a x dd e => let ⟨e1, e2⟩ := r.exc i a x dd e; ⟨e1, g.rxf e2⟩⟩
theorem RE.put {T : Fx} {m : Nat → Addr} {N : Nat} {H : Hp} {e : Ev} {σ : St} (r : RE T m N H e σ) (i : Nat) {o : Option D} {w : Option V} (nx : Nx T i) (q : ∀ d, o = some d → ∃ v, w = some v ∧ RD T.K m N H d v) : RE T m N H (e.set i o) (σ.set i w) := by
  refine ⟨by rw [List.length_set, List.length_set]; exact r.len, fun j x h => ?_, fun j a x dd h => by rw [List.getElem?_set_ne (Ne.symm (nx j _ h))]; exact r.exc j a x dd h⟩
  by_cases hij : i = j
  · subst hij
    by_cases hl : i < e.length
    · rw [List.getElem?_set_self hl] at h
      obtain ⟨v, rfl, rv⟩ := q x (Option.some.inj h)
      exact ⟨v, List.getElem?_set_self (by rw [← r.len]; exact hl), rv⟩
    · rw [List.getElem?_eq_none (by rw [List.length_set]; omega)] at h
      cases h
  · rw [List.getElem?_set_ne hij] at h ⊢
    exact r.at_ j x h
theorem RE.set {T : Fx} {m : Nat → Addr} {N : Nat} {H : Hp} {e : Ev} {σ : St} (r : RE T m N H e σ) (i : Nat) {d : D} {v : V} (nx : Nx T i) (q : RD T.K m N H d v) : RE T m N H (e.set i (some d)) (σ.set i (some v)) :=
  r.put i nx fun d' e => by cases e; exact ⟨v, rfl, q⟩
theorem RE.drop1 {T : Fx} {m : Nat → Addr} {N : Nat} {H : Hp} {e : Ev} {σ : St} (r : RE T m N H e σ) (i : Nat) (nx : Nx T i) (w : Option V) : RE T m N H (e.set i none) (σ.set i w) :=
  r.put i nx fun d' e => by cases e
theorem RE.wipe {T : Fx} {m : Nat → Addr} {N : Nat} {H : Hp} {e : Ev} {σ : St} (r : RE T m N H e σ) (hx : T.ex = none) : ∀ vs : List Nat, RE T m N H (Mn.wipe e vs) (L2.wipe σ vs)
  | [] => r
  | v :: vs => (RE.wipe r hx vs).drop1 v (fun j a h => by rw [hx] at h; cases h) none
def RX (T : Fx) (m : Nat → Addr) (N : Nat) (H : Hp) (x : Xc) (cls : Value) (dd : Option Addr) : Prop :=
  cls = T.cv x.cls ∧ RXf T.K m N H x.fs dd
section
variable (T : Fx) (W : WX)
def PO {α β : Type} (RA : (Nat → Addr) → Nat → Hp → α → β → Prop) (σ : St) (m : Nat → Addr) (h : Hh) (H : Hp) (r : R α) (Q : β → Hp → Prop) : Prop := match r with
  | .ok a h' => ∀ m' H' b, Ge m h H m' h' H' → RH T m' h' H' → RA m' h'.length H' a b → Q b H'
  | .exc x h' => ∀ m' H' cls dd, Ge m h H m' h' H' → RH T m' h' H' → RX T m' h'.length H' x cls dd → W cls dd σ H'
  | .stuck => False
def PE_ (f : ED) : TE := fun σ H Q => ∃ m e h, RH T m h H ∧ RE T m h.length H e σ ∧ PO T W (fun m N H d v => RD T.K m N H d v) σ m h H (f e h) Q
def PT_ (f : TD) : TT := fun σ H Q => ∃ m e h, RH T m h H ∧ RE T m h.length H e σ ∧ PO T W (fun _ _ _ d v => d = v) σ m h H (f e h) Q
def PA_ (f : AD) : TA := fun σ H Q => ∃ m e h, RH T m h H ∧ RE T m h.length H e σ ∧ PO T W (fun m N H d v => RDs T.K m N H d v) σ m h H (f e h) Q
def PSo (D : Ends) (m : Nat → Addr) (h : Hh) (H : Hp) (r : RS) : Prop := match r with
  | .go .nx e' h' => ∀ m' H' σ', Ge m h H m' h' H' → RH T m' h' H' → RE T m' h'.length H' e' σ' → D.nx σ' H'
  | .go .bk e' h' => ∀ m' H' σ', Ge m h H m' h' H' → RH T m' h' H' → RE T m' h'.length H' e' σ' → D.bk σ' H'
  | .go .ct e' h' => ∀ m' H' σ', Ge m h H m' h' H' → RH T m' h' H' → RE T m' h'.length H' e' σ' → D.ct σ' H'
  | .go (.rt d) _ h' => ∀ m' H' v, Ge m h H m' h' H' → RH T m' h' H' → RD T.K m' h'.length H' d v → D.rt v H'
  | .exc x e' h' => ∀ m' H' σ' cls dd, Ge m h H m' h' H' → RH T m' h' H' → RE T m' h'.length H' e' σ' → RX T m' h'.length H' x cls dd → W cls dd σ' H'
  | .stuck => False
def PS_ (f : SD) : TS := fun D σ H => ∃ m e h, RH T m h H ∧ RE T m h.length H e σ ∧ PSo T W D m h H (f e h)
end
section
variable {T : Fx} {W : WX}
theorem PO.base {α β : Type} {RA : (Nat → Addr) → Nat → Hp → α → β → Prop} {σ : St} {m m1 : Nat → Addr} {h h1 : Hh} {H H1 : Hp} {r : R α} {Q : β → Hp → Prop} (p : PO T W RA σ m h H r Q) (g : Ge m h H m1 h1 H1) : PO T W RA σ m1 h1 H1 r Q := by
  cases r with
  | ok a h' => exact fun m' H' b g' => p m' H' b (g.trans g')
  | exc x h' => exact fun m' H' cls dd g' => p m' H' cls dd (g.trans g')
  | stuck => exact p
theorem PSo.base {D : Ends} {m m1 : Nat → Addr} {h h1 : Hh} {H H1 : Hp} {r : RS} (p : PSo T W D m h H r) (g : Ge m h H m1 h1 H1) : PSo T W D m1 h1 H1 r := by
  cases r with
  | go f e h' => cases f with
    | nx => exact fun m' H' b g' => p m' H' b (g.trans g')
    | bk => exact fun m' H' b g' => p m' H' b (g.trans g')
    | ct => exact fun m' H' b g' => p m' H' b (g.trans g')
    | rt d => exact fun m' H' b g' => p m' H' b (g.trans g')
  | exc x e h' => exact fun m' H' σ' cls dd g' => p m' H' σ' cls dd (g.trans g')
  | stuck => exact p
theorem PO.bind {α β γ δ : Type} {RA : (Nat → Addr) → Nat → Hp → α → β → Prop} {RB : (Nat → Addr) → Nat → Hp → γ → δ → Prop} {σ : St} {m : Nat → Addr} {h : Hh} {H : Hp} {r : R α} {f : α → Hh → R γ} {Q : δ → Hp → Prop} {Q1 : β → Hp → Prop}
    (p : PO T W RB σ m h H (r.bind f) Q) (k : ∀ a h' m' H' b, Ge m h H m' h' H' → RH T m' h' H' → RA m' h'.length H' a b → PO T W RB σ m' h' H' (f a h') Q → Q1 b H') : PO T W RA σ m h H r Q1 := by
  cases r with
  | ok a h' => exact fun m' H' b g rh ra => k a h' m' H' b g rh ra (PO.base (r := f a h') p g)
  | exc x h' => exact p
  | stuck => exact p
theorem PO.toS {α β : Type} {RA : (Nat → Addr) → Nat → Hp → α → β → Prop} {σ : St} {e : Ev} {D : Ends} {m : Nat → Addr} {h : Hh} {H : Hp} {r : R α} {f : α → Hh → RS} {Q1 : β → Hp → Prop} (re : RE T m h.length H e σ)
    (p : PSo T W D m h H (r.toS e f)) (k : ∀ a h' m' H' b, Ge m h H m' h' H' → RH T m' h' H' → RA m' h'.length H' a b → PSo T W D m' h' H' (f a h') → Q1 b H') : PO T W RA σ m h H r Q1 := by
  cases r with
  | ok a h' => exact fun m' H' b g rh ra => k a h' m' H' b g rh ra (PSo.base (r := f a h') p g)
  | exc x h' => exact fun m' H' cls dd g rh rx => p m' H' σ cls dd g rh (g.re re) rx
  | stuck => exact p
theorem RO.there {m : Nat → Addr} {N : Nat} {H : Hp} {a : Addr} {o : O} (r : RO T m N H a o) (f : isFz o = false) : ∃ w, H a = some w ∧ (∀ xs, w ≠ .tup xs) ∧ ∀ o xs, w ≠ .frz o xs := by
  cases o with
  | lst ds => obtain ⟨vs, q, _⟩ := r; exact ⟨_, q, fun _ z => (by cases z), fun _ _ z => by cases z⟩
  | frz ds => cases f
  | ins c fs => obtain ⟨C, dx, vs, _, q, _, _, _⟩ := r; exact ⟨_, q, fun _ z => (by cases z), fun _ _ z => by cases z⟩
theorem RO.mono {m m' : Nat → Addr} {h h' : Hh} {H H' : Hp} {a : Addr} {o : O} (g : Ge m h H m' h' H') (r : RO T m h.length H a o) (k : isFz o = false → H' a = H a) : RO T m' h'.length H' a o := by
  cases o with
  | lst ds => obtain ⟨vs, q1, q2⟩ := r; exact ⟨vs, (k rfl).trans q1, g.rds q2⟩
  | frz ds => obtain ⟨vs, q1, q2⟩ := r; exact ⟨vs, q1.mono g.tk, g.rds q2⟩
  | ins c fs => obtain ⟨C, dx, vs, q0, q1, q2, q3⟩ := r; exact ⟨C, dx, vs, q0, (k rfl).trans q1, Paired.mapP q2 fun _ _ z => ⟨z.1, g.rd z.2⟩, q3⟩
theorem RH.new {m : Nat → Addr} {h : Hh} {H : Hp} {p : Addr} {u : HO} {o : O} (r : RH T m h H) (hp : H p = none) (ho : ∀ m' : Nat → Addr, (∀ n, n < h.length → m' n = m n) → m' h.length = p → RO T m' (h.length + 1) (upd H p u) p o) :
    ∃ m', Ge m h H m' (h ++ [o]) (upd H p u) ∧ RH T m' (h ++ [o]) (upd H p u) ∧ RD T.K m' (h ++ [o]).length (upd H p u) (.ref h.length) (.ref p) := by
  refine ⟨fun n => if n < h.length then m n else p, ?_⟩
  have e1 : ∀ n, n < h.length → (if n < h.length then m n else p) = m n := fun n hn => if_pos hn
  have e2 : (if h.length < h.length then m h.length else p) = p := if_neg (Nat.lt_irrefl _)
  have g : Ge m h H (fun n => if n < h.length then m n else p) (h ++ [o]) (upd H p u) := ⟨e1, by rw [List.length_append]; exact Nat.le_add_right _ _, TK.upd hp⟩
  have ne : ∀ i o', h[i]? = some o' → isFz o' = false → m i ≠ p := fun i o' hi f z => by
    obtain ⟨w, hw, _⟩ := (r.obj i o' hi).there f
    rw [z, hp] at hw
    cases hw
  have old : ∀ {n o'}, (h ++ [o])[n]? = some o' → n < h.length ∧ h[n]? = some o' ∨ n = h.length ∧ o' = o := fun {n o'} hn => by
    by_cases hl : n < h.length
    · rw [List.getElem?_append_left hl] at hn
      exact .inl ⟨hl, hn⟩
    · have hn' := (List.getElem?_eq_some_iff.mp hn).1
      rw [List.length_append, List.length_singleton] at hn'
      have en : n = h.length := by omega
      subst en
      rw [List.getElem?_append_right (Nat.le_refl _), Nat.sub_self] at hn
      exact .inr ⟨rfl, (Option.some.inj hn).symm⟩
  refine ⟨g, ⟨fun n o' hn => ?_, fun i j o1 o2 h1 h2 f1 f2 e => ?_⟩, ?_⟩
  · rcases old hn with ⟨hl, hn⟩ | ⟨rfl, rfl⟩
    · simp only [if_pos hl]
      exact (r.obj n o' hn).mono g fun f => upd_ne (ne n o' hn f)
    · simp only [if_neg (Nat.lt_irrefl _), List.length_append, List.length_singleton]
      exact ho _ e1 e2
  · rcases old h1 with ⟨hi, k1⟩ | ⟨rfl, rfl⟩ <;> rcases old h2 with ⟨hj, k2⟩ | ⟨rfl, rfl⟩
    · simp only [if_pos hi, if_pos hj] at e
      exact r.inj i j o1 o2 k1 k2 f1 f2 e
    · simp only [if_pos hi, if_neg (Nat.lt_irrefl _)] at e
      exact absurd e (ne i o1 k1 f1)
    · simp only [if_pos hj, if_neg (Nat.lt_irrefl _)] at e
      exact absurd e.symm (ne j o2 k2 f2)
    · rfl
  · have hl : h.length < (h ++ [o]).length := by rw [List.length_append]; exact Nat.lt_succ_self _
    have q := RD.ref (K := T.K) (m := fun n => if n < h.length then m n else p) (H := upd H p u) hl
    simp only [if_neg (Nat.lt_irrefl _)] at q
    exact q
theorem RH.lay {m : Nat → Addr} {h : Hh} {H : Hp} {p : Addr} {u : HO} (r : RH T m h H) (hp : H p = none) : Ge m h H m h (upd H p u) ∧ RH T m h (upd H p u) := by
  have g : Ge m h H m h (upd H p u) := ⟨fun _ _ => rfl, Nat.le_refl _, TK.upd hp⟩
  refine ⟨g, ⟨fun n o hn => (r.obj n o hn).mono g fun f => ?_, r.inj⟩⟩
  obtain ⟨w, hw, _⟩ := (r.obj n o hn).there f
  exact upd_ne (ne_of_none hw hp)
theorem RH.put {m : Nat → Addr} {h : Hh} {H : Hp} {n : Nat} {u w : HO} {o o₀ : O} (r : RH T m h H) (hn : h[n]? = some o₀) (hf : isFz o₀ = false) (hf' : isFz o = false) (hw : H (m n) = some w) (n1 : ∀ xs, w ≠ .tup xs) (n2 : ∀ o xs, w ≠ .frz o xs) (n3 : ∀ xs, w ≠ .xd xs) (n4 : ∀ lo hi, w ≠ .rng lo hi)
    (ho : RO T m h.length (upd H (m n) u) (m n) o) : Ge m h H m (h.set n o) (upd H (m n) u) ∧ RH T m (h.set n o) (upd H (m n) u) := by
  have g : Ge m h H m (h.set n o) (upd H (m n) u) := ⟨fun _ _ => rfl, Nat.le_of_eq (List.length_set ..).symm, TK.set hw n1 n2 n3 n4⟩
  have hl := (List.getElem?_eq_some_iff.mp hn).1
  have old : ∀ {i o'}, (h.set n o)[i]? = some o' → n ≠ i ∧ h[i]? = some o' ∨ n = i ∧ o' = o := fun {i o'} hi => by
    by_cases hin : n = i
    · subst hin
      rw [List.getElem?_set_self hl] at hi
      exact .inr ⟨rfl, (Option.some.inj hi).symm⟩
    · rw [List.getElem?_set_ne hin] at hi
      exact .inl ⟨hin, hi⟩
  refine ⟨g, ⟨fun i o' hi => ?_, fun i j o1 o2 h1 h2 f1 f2 e => ?_⟩⟩
  · rcases old hi with ⟨hin, hi⟩ | ⟨rfl, rfl⟩
    · exact (r.obj i o' hi).mono g fun f => upd_ne fun e => hin (r.inj i n o' o₀ hi hn f hf e).symm
    · rw [List.length_set]
      exact ho
  · rcases old h1 with ⟨hi, k1⟩ | ⟨rfl, rfl⟩ <;> rcases old h2 with ⟨hj, k2⟩ | ⟨rfl, rfl⟩
    · exact r.inj i j o1 o2 k1 k2 f1 f2 e
    · exact r.inj i _ o1 o₀ k1 hn f1 hf e
    · exact r.inj _ j o₀ o2 hn k2 hf f2 e
    · rfl
theorem RH.lst {m : Nat → Addr} {h : Hh} {H : Hp} {n : Nat} {ds : List D} (r : RH T m h H) (e : lstAt h n = some ds) : n < h.length ∧ ∃ vs, SqL T.K H (m n) vs ∧ RDs T.K m h.length H ds vs := by
  unfold lstAt at e
  cases q : h[n]? with
  | none => rw [q] at e; cases e
  | some o =>
    refine ⟨(List.getElem?_eq_some_iff.mp q).1, ?_⟩
    rw [q] at e
    have ro := r.obj n o q
    cases o with
    | lst xs =>
      obtain ⟨vs, q1, q2⟩ := ro
      cases e
      exact ⟨vs, .inl (.inl q1), q2⟩
    | frz xs =>
      obtain ⟨vs, q1, q2⟩ := ro
      cases e
      exact ⟨vs, q1.seq, q2⟩
    | ins c fs => cases e
theorem RH.mut {m : Nat → Addr} {h : Hh} {H : Hp} {n : Nat} {ds : List D} (r : RH T m h H) (e : h[n]? = some (.lst ds)) : n < h.length ∧ ∃ vs, H (m n) = some (.lst vs) ∧ RDs T.K m h.length H ds vs :=
  ⟨(List.getElem?_eq_some_iff.mp e).1, r.obj n _ e⟩
theorem RH.newL {m : Nat → Addr} {h : Hh} {H : Hp} {p : Addr} {ds : List D} {vs : List V} (r : RH T m h H) (hp : H p = none) (q : RDs T.K m h.length H ds vs) :
    ∃ m', Ge m h H m' (h ++ [.lst ds]) (upd H p (.lst vs)) ∧ RH T m' (h ++ [.lst ds]) (upd H p (.lst vs)) ∧ RD T.K m' (h ++ [O.lst ds]).length (upd H p (.lst vs)) (.ref h.length) (.ref p) :=
  r.new hp fun m' e1 e2 => ⟨vs, upd_same, q.mono (TK.upd hp) e1 (Nat.le_succ _)⟩
theorem RH.putL {m : Nat → Addr} {h : Hh} {H : Hp} {n : Nat} {ds es : List D} {vs : List V} {ws : List V} (r : RH T m h H) (hn : h[n]? = some (.lst es)) (hw : H (m n) = some (.lst ws)) (q : RDs T.K m h.length H ds vs) :
    Ge m h H m (h.set n (.lst ds)) (upd H (m n) (.lst vs)) ∧ RH T m (h.set n (.lst ds)) (upd H (m n) (.lst vs)) :=
  r.put hn rfl rfl hw (fun _ z => by cases z) (fun _ _ z => by cases z) (fun _ z => by cases z) (fun _ _ z => by cases z) ⟨vs, upd_same, q.mono (TK.set hw (fun _ z => by cases z) (fun _ _ z => by cases z) (fun _ z => by cases z) (fun _ _ z => by cases z)) (fun _ _ => rfl) (Nat.le_refl _)⟩
theorem RH.ex {T : Fx} {o : Xs} {m : Nat → Addr} {h : Hh} {H : Hp} (r : RH T m h H) : RH ⟨T.K, T.cv, T.fn, o⟩ m h H := ⟨fun n o hn => r.obj n o hn, r.inj⟩
theorem PSo.flow {T : Fx} {W W' : WX} {D : Ends} {m : Nat → Addr} {h : Hh} {H : Hp} {f : F} {e : Ev} {h' : Hh} (p : PSo T W D m h H (.go f e h')) : PSo T W' D m h H (.go f e h') := by
  cases f <;> exact p
end
end Mn
namespace Mn
open PySem L2
abbrev FX (X : Cx) (cv : Nat → Value) (fn : Nat → Str) (xs : Xs) : Fx := ⟨X.K, cv, fn, xs⟩
theorem peImp {X : Cx} {e : Expr} {t t' : TE} (h : PE X e t) (w : ∀ σ H Q, t' σ H Q → t σ H Q) : PE X e t' := ⟨fun pins s σ H Q I q => h.run pins s σ H Q I (w σ H Q q)⟩
theorem ptImp {X : Cx} {e : Expr} {t t' : TT} (h : PT X e t) (w : ∀ σ H Q, t' σ H Q → t σ H Q) : PT X e t' := ⟨fun pins s σ H Q I q => h.run pins s σ H Q I (w σ H Q q)⟩
theorem paImp {X : Cx} {e : List Expr} {t t' : TA} (h : PA X e t) (w : ∀ σ H Q, t' σ H Q → t σ H Q) : PA X e t' := ⟨fun pos pins s σ H Q I q => h.run pos pins s σ H Q I (w σ H Q q)⟩
theorem psImp {X : Cx} {e : Stmt} {t t' : TS} (h : PS X e t) (w : ∀ D σ H, t' D σ H → t D σ H) : PS X e t' := ⟨fun pins s σ H D I q => h.run pins s σ H D I (w D σ H q)⟩
theorem pssImp {X : Cx} {e : List Stmt} {t t' : TS} (h : PSs X e t) (w : ∀ D σ H, t' D σ H → t D σ H) : PSs X e t' := ⟨fun pins s σ H D I q => h.run pins s σ H D I (w D σ H q)⟩
abbrev rdR (T : Fx) : (Nat → Addr) → Nat → Hp → D → V → Prop := fun m N H d v => RD T.K m N H d v
def r2 (T : Fx) (g : D → D → Hh → R D) : R2 := fun x y H Q => ∃ (W : WX) (σ : L2.St) (m : Nat → Addr) (h : Hh) (a b : D), RH T m h H ∧ RD T.K m h.length H a x ∧ RD T.K m h.length H b y ∧ PO T W (rdR T) σ m h H (g a b h) Q
def r1 (T : Fx) (g : D → Hh → R D) : V → Hp → VK → Prop := fun x H Q => ∃ (W : WX) (σ : L2.St) (m : Nat → Addr) (h : Hh) (a : D), RH T m h H ∧ RD T.K m h.length H a x ∧ PO T W (rdR T) σ m h H (g a h) Q
def rN (T : Fx) (g : FD) : List V → Hp → VK → Prop := fun xs H Q => ∃ (W : WX) (σ : L2.St) (m : Nat → Addr) (h : Hh) (ds : List D), RH T m h H ∧ RDs T.K m h.length H ds xs ∧ PO T W (rdR T) σ m h H (g ds h) Q
def rM (T : Fx) (g : D → List D → Hh → R D) : V → List V → Hp → VK → Prop := fun x xs H Q => ∃ (W : WX) (σ : L2.St) (m : Nat → Addr) (h : Hh) (d : D) (ds : List D), RH T m h H ∧ RD T.K m h.length H d x ∧ RDs T.K m h.length H ds xs ∧ PO T W (rdR T) σ m h H (g d ds h) Q
section
variable {T : Fx} {W : WX}
theorem bind2 {fa fb : ED} {g : D → D → Hh → R D} {σ : L2.St} {H : Hp} {Q : VK} (h : PE_ T W (fun e h => (fa e h).bind fun x h1 => (fb e h1).bind fun y h2 => g x y h2) σ H Q) :
    PE_ T W fa σ H fun x H1 => PE_ T W fb σ H1 fun y H2 => r2 T g x y H2 Q := by
  obtain ⟨m, e, h, rh, re, p⟩ := h
  refine ⟨m, e, h, rh, re, p.bind fun a h1 m1 H1 x g1 rh1 ra p1 => ⟨m1, e, h1, rh1, g1.re re, p1.bind fun b h2 m2 H2 y g2 rh2 rb p2 => ?_⟩⟩
  exact ⟨W, σ, m2, h2, a, b, rh2, g2.rd ra, rb, p2⟩
theorem bind1 {fa : ED} {g : D → Hh → R D} {σ : L2.St} {H : Hp} {Q : VK} (h : PE_ T W (fun e h => (fa e h).bind fun x h1 => g x h1) σ H Q) :
    PE_ T W fa σ H fun x H1 => r1 T g x H1 Q := by
  obtain ⟨m, e, h, rh, re, p⟩ := h
  exact ⟨m, e, h, rh, re, p.bind fun a h1 m1 H1 x g1 rh1 ra p1 => ⟨W, σ, m1, h1, a, rh1, ra, p1⟩⟩
theorem PO.here {α β : Type} {RA : (Nat → Addr) → Nat → Hp → α → β → Prop} {σ : L2.St} {m : Nat → Addr} {h : Hh} {H : Hp} {a : α} {b : β} {Q : β → Hp → Prop} (p : PO T W RA σ m h H (.ok a h) Q) (rh : RH T m h H) (ra : RA m h.length H a b) : Q b H :=
  p m H b Ge.refl rh ra
theorem PO.new {σ : L2.St} {m : Nat → Addr} {h : Hh} {H : Hp} {ds : List D} {vs : List V} {Q : VK} (p : PO T W (rdR T) σ m h H (.ok (.ref h.length) (h ++ [.lst ds])) Q) (rh : RH T m h H) (r : RDs T.K m h.length H ds vs) :
    ∀ q, H q = none → Q (.ref q) (upd H q (.lst vs)) := fun q hq => by
  obtain ⟨m', g, rh', rd⟩ := rh.newL hq r
  exact p m' _ _ g rh' rd
theorem PO.newT {σ : L2.St} {m : Nat → Addr} {h : Hh} {H : Hp} {ds : List D} {vs : List V} {Q : VK} (p : PO T W (rdR T) σ m h H (.ok (.tup ds) h) Q) (rh : RH T m h H) (r : RDs T.K m h.length H ds vs) :
    ∀ q, H q = none → Q (.ref q) (upd H q (.tup vs)) := fun q hq => by
  obtain ⟨g, rh'⟩ := rh.lay (u := .tup vs) hq
  exact p m _ _ g rh' (.tup (.inl (.inl upd_same)) (g.rds r))
end
section
variable {X : Cx} {cv : Nat → Value} {fn : Nat → Str} {xs : Xs} {W : WX} {pos : Pos} {a b c : Expr} {fa fb fc : ED}
theorem s_c {d : D} {v : V} {e : Expr} (h : PE X e (tC v)) (r : ∀ m N H, RD X.K m N H d v) : PE X e (PE_ (FX X cv fn xs) W (dC d)) :=
  peImp h fun σ H Q q => by
    obtain ⟨m, e, h, rh, re, p⟩ := q
    exact p m H v Ge.refl rh (r _ _ _)
theorem s_v {i : Nat} {x : Str} (hN : X.N[i]? = some x) (hv : Vis X.env.scope x) (hd : (x == ("__debug__" : Str)) = false) (hcd : (x == ("__classdict__" : Str)) = false) : PE X (.Name x pos) (PE_ (FX X cv fn xs) W (dV i)) :=
  peImp (pe_var hN hv hd hcd) fun σ H Q q => by
    obtain ⟨m, e, h, rh, re, p⟩ := q
    unfold dV at p
    split at p
    · rename_i d hd
      obtain ⟨v, h1, h2⟩ := re.at_ i d hd
      exact ⟨v, h1, p m H v Ge.refl rh h2⟩
    · exact p.elim
theorem op_mulG : OpR X (binaryOp .Mult) (rI (fun i j => i.natAbs.log2 + j.natAbs.log2 < 100000000) fun i j => .int (i * j)) := opI fun i j _ _ _ _ _ hc q => PyProof.Rows.mul_int q (by
  have b : ∀ x : Int, Builtin.Int.intBits x ≤ x.natAbs.log2 + 1 := fun x => by
    unfold Builtin.Int.intBits
    split <;> omega
  have h1 := b i
  have h2 := b j
  have e : bitsLine = 134217728 := by decide
  intro z
  rw [Bool.and_eq_true] at z
  have z2 := z.2
  unfold Builtin.Int.intTooBig at z2
  have z3 := of_decide_eq_true z2
  rw [e] at z3
  omega)
theorem op_fdivG : OpR X (binaryOp .FloorDiv) (rI (fun _ j => j ≠ 0 ∧ j.natAbs.log2 < 9000) fun i j => .int (i.fdiv j)) := opI fun _ _ _ _ _ _ _ hc q => PyProof.Rows.floordiv_int hc.1 q (.inl (PyProof.noPylong_of_log2 hc.2))
theorem rep_arr (c : Array Nat) : ∀ (k : Nat) (acc : Array Nat), ((List.replicate k c).foldl (· ++ ·) acc).size = acc.size + c.size * k
  | 0, acc => by rw [Nat.mul_zero]; rfl
  | k + 1, acc => by
    rw [List.replicate_succ, List.foldl_cons, rep_arr c k, Array.size_append, Nat.mul_succ]
    omega
theorem rep_len (a : Str) (k : Nat) : (repS a k).length = a.length * k := by
  show ((List.replicate k a.cps).foldl (· ++ ·) #[]).size = _
  rw [rep_arr]
  exact Nat.zero_add _
theorem o_bin (op : Operator) : OpR X (binaryOp op) (r2 (FX X cv fn xs) (bop op)) := by
  intro pins s σ0 H x y v u Q I rx ry hh
  obtain ⟨W, σ, m, h, d1, d2, rh, ra, rb, p⟩ := hh
  unfold bop at p
  split at p
  · cases ra; cases rb; exact op_add pins s σ0 H _ _ v u Q I rx ry ⟨_, _, rfl, rfl, p.here rh (.int _)⟩
  · cases ra; cases rb; exact op_sub pins s σ0 H _ _ v u Q I rx ry ⟨_, _, rfl, rfl, p.here rh (.int _)⟩
  · cases ra; cases rb
    split at p
    · exact op_mulG pins s σ0 H _ _ v u Q I rx ry ⟨_, _, rfl, rfl, by assumption, p.here rh (.int _)⟩
    · exact p.elim
  · cases ra; cases rb
    split at p
    · exact op_fdivG pins s σ0 H _ _ v u Q I rx ry ⟨_, _, rfl, rfl, by assumption, p.here rh (.int _)⟩
    · exact p.elim
  · cases ra; cases rb
    split at p
    · exact op_modN pins s σ0 H _ _ v u Q I rx ry ⟨_, _, rfl, rfl, by assumption, p.here rh (.int _)⟩
    · exact p.elim
  · cases ra; cases rb
    split at p
    · exact op_pow pins s σ0 H _ _ v u Q I rx ry ⟨_, _, rfl, rfl, by assumption, p.here rh (.int _)⟩
    · exact p.elim
  · cases ra; cases rb
    split at p
    · exact op_shl pins s σ0 H _ _ v u Q I rx ry ⟨_, _, rfl, rfl, by assumption, p.here rh (.int _)⟩
    · exact p.elim
  · cases ra; cases rb
    split at p
    · exact op_shr pins s σ0 H _ _ v u Q I rx ry ⟨_, _, rfl, rfl, by assumption, p.here rh (.int _)⟩
    · exact p.elim
  · cases ra; cases rb; exact op_and pins s σ0 H _ _ v u Q I rx ry ⟨_, _, rfl, rfl, p.here rh (.int _)⟩
  · cases ra; cases rb; exact op_or pins s σ0 H _ _ v u Q I rx ry ⟨_, _, rfl, rfl, p.here rh (.int _)⟩
  · cases ra; cases rb
    split at p
    · exact op_add_str pins s σ0 H _ _ v u Q I rx ry ⟨_, _, rfl, rfl, by rw [sizeLine_eq]; assumption, p.here rh (.str _)⟩
    · exact p.elim
  · cases ra with
    | tup s1 q1 => cases rb with
      | tup s2 q2 =>
        split at p
        · rename_i hz
          refine op_catA pins s σ0 H _ _ v u Q I rx ry ⟨_, _, _, _, rfl, rfl, s1, s2, ?_, fun z => ?_, fun _ z => ?_, fun _ _ => p.newT rh (q1.append q2)⟩
          · rw [sizeLine_eq, ← q1.length, ← q2.length]; exact hz
          · subst z
            cases q1
            rw [List.nil_append] at p
            exact p.here rh (.tup s2 q2)
          · subst z
            cases q2
            rw [List.append_nil] at p
            exact p.here rh (.tup s1 q1)
        · exact p.elim
  · cases ra with
    | ref h1 => cases rb with
      | ref h2 =>
        split at p
        · rename_i a b ea eb
          split at p
          · rename_i hz
            obtain ⟨_, vs, q1, r1⟩ := rh.mut ea
            obtain ⟨_, ws, q2, r2⟩ := rh.mut eb
            exact op_cat pins s σ0 H _ _ v u Q I rx ry ⟨_, _, _, _, rfl, rfl, q1, q2, by rw [sizeLine_eq, ← r1.length, ← r2.length]; exact hz, p.new rh (r1.append r2)⟩
          · exact p.elim
        · exact p.elim
  · cases ra with
    | ref h1 =>
      cases rb
      split at p
      · rename_i a ea
        split at p
        · rename_i hz
          obtain ⟨_, vs, q1, r1⟩ := rh.mut ea
          exact op_rep pins s σ0 H _ _ v u Q I rx ry ⟨_, _, _, rfl, rfl, q1, hz.1, hz.2.1, by rw [sizeLine_eq, ← r1.length]; exact hz.2.2, p.new rh (r1.rep _)⟩
        · exact p.elim
      · exact p.elim
  · cases ra; cases rb
    split at p
    · rename_i a k hz
      obtain ⟨t, rfl⟩ := rx
      obtain ⟨t', rfl⟩ := ry
      have hk : ¬ k < 1 := by omega
      have h0 : (k == 1 || a.length == 0) = false := by
        rw [Bool.or_eq_false_iff, beq_eq_false_iff_ne, beq_eq_false_iff_ne]
        omega
      have hm : a.length * k.toNat ≤ 1000 * 10000 := Nat.mul_le_mul hz.2.2.2 (by omega)
      refine PySem.P.mul_str ?_ (fun _ _ => ?_) (fun _ _ => ?_) ?_
      · rw [decide_eq_false (by omega), decide_eq_false (by omega)]; rfl
      · refine Int.not_lt.mpr (Int.le_ediv_of_mul_le (by omega) ?_)
        have e : ((a.length : Int)) * k = ((a.length * k.toNat : Nat) : Int) := by
          rw [Int.natCast_mul, Int.toNat_of_nonneg (by omega)]
        rw [e]
        omega
      · unfold Builtin.Str.tooLong
        rw [decide_eq_false_iff_not, sizeLine_eq]
        omega
      · rw [if_neg hk, if_neg (by rw [h0]; exact Bool.false_ne_true)]
        refine ⟨?_, ⟨.str _, H, I.tok _, ⟨_, rfl⟩, p.here rh (.str _)⟩⟩
        show (repS a k.toNat).length ≤ sizeLine
        rw [rep_len, sizeLine_eq]
        omega
    · exact p.elim
  · exact p.elim
theorem s_bin {op : Operator} (ha : PE X a (PE_ (FX X cv fn xs) W fa)) (hb : PE X b (PE_ (FX X cv fn xs) W fb)) : PE X (.BinOp a op b pos) (PE_ (FX X cv fn xs) W (dB op fa fb)) :=
  peImp (pe_op (o_bin op) ha hb) fun _ _ _ q => bind2 q
theorem o_un (op : UnaryOp) : UnR X (unaryOp op) (r1 (FX X cv fn xs) (uop op)) := by
  intro pins s σ0 H x v Q I rx hh
  obtain ⟨W, σ, m, h, d1, rh, ra, p⟩ := hh
  unfold uop at p
  split at p
  · cases ra; exact un_neg pins s σ0 H _ v Q I rx ⟨_, rfl, p.here rh (.int _)⟩
  · exact p.elim
theorem s_un {op : UnaryOp} (ha : PE X a (PE_ (FX X cv fn xs) W fa)) : PE X (.UnaryOp op a pos) (PE_ (FX X cv fn xs) W (dU op fa)) :=
  peImp (pe_un (o_un op) ha) fun _ _ _ q => bind1 q
end
end Mn
namespace Mn
open PySem L2
section
variable {T : Fx} {m : Nat → Addr} {h : Hh} {H : Hp}
theorem allS_dp (f : D → Option PyData) (ih : ∀ d v pd, f d = some pd → RD T.K m h.length H d v → Dp T.K H v pd) :
    ∀ (ds : List D) (vs : List V) (ps : List PyData), allS f ds = some ps → RDs T.K m h.length H ds vs → DpAll T.K H vs ps
  | [], _, _, e, r => by cases r; cases e; exact .nil
  | d :: ds, _, ps, e, r => by
    cases r with
    | cons r1 r2 =>
      unfold allS at e
      split at e
      · rename_i x xs e1 e2
        cases e
        exact .cons (ih _ _ _ e1 r1) (allS_dp f ih ds _ _ e2 r2)
      · cases e
theorem toPD_dp (rh : RH T m h H) : ∀ (k : Nat) (d : D) (v : V) (pd : PyData), toPD h k d = some pd → RD T.K m h.length H d v → Dp T.K H v pd
  | 0, d, v, pd, e, r => by
    cases d <;> first
      | (cases r; cases e; first | exact .non | exact .bl _ | exact .int _ | exact .str _)
      | (simp [toPD] at e)
  | k + 1, d, v, pd, e, r => by
    cases d with
    | non => cases r; cases e; exact .non
    | bl b => cases r; cases e; exact .bl _
    | int b => cases r; cases e; exact .int _
    | str b => cases r; cases e; exact .str _
    | tup ds =>
      cases r with
      | tup s q =>
        simp only [toPD] at e
        obtain ⟨ps, e1, rfl⟩ := Option.map_eq_some_iff.mp e
        exact .tup s (allS_dp _ (toPD_dp rh k) _ _ _ e1 q)
    | ref n =>
      cases r
      simp only [toPD] at e
      split at e
      · rename_i ds e0
        obtain ⟨ps, e1, rfl⟩ := Option.map_eq_some_iff.mp e
        obtain ⟨_, vs, s, q⟩ := rh.lst e0
        exact .lst s (allS_dp _ (toPD_dp rh k) _ _ _ e1 q)
      · cases e
    | rg lo hi => cases e
theorem flat_rd {d : D} {v : V} (r : RD T.K m h.length H d v) (f : flatD d = true) : flatV v = true := by
  cases r <;> first | rfl | cases f
theorem eqF_rd {d e : D} {v w : V} (r : RD T.K m h.length H d v) (q : RD T.K m h.length H e w) (f : flatD d = true) (g : flatD e = true) : eqV v w = eqF d e := by
  cases r <;> first | (cases f; done) | (cases q <;> first | rfl | cases g)
theorem flat_all : ∀ {ds : List D} {vs : List V}, RDs T.K m h.length H ds vs → ds.all flatD = true → vs.all flatV = true
  | _, _, .nil, _ => rfl
  | _, _, .cons a b, f => by
    rw [List.all_cons, Bool.and_eq_true] at f ⊢
    exact ⟨flat_rd a f.1, flat_all b f.2⟩
theorem any_rd {d : D} {v : V} (r : RD T.K m h.length H d v) (f : flatD d = true) : ∀ {ds : List D} {vs : List V}, RDs T.K m h.length H ds vs → ds.all flatD = true → (vs.any fun y => eqV y v) = ds.any fun y => eqF y d
  | _, _, .nil, _ => rfl
  | _, _, .cons a b, g => by
    rw [List.all_cons, Bool.and_eq_true] at g
    rw [List.any_cons, List.any_cons, any_rd r f b g.2, eqF_rd a r g.1 f]
theorem inD_rd {d : D} {v : V} {ds : List D} {vs : List V} {k : Bool} (r : RD T.K m h.length H d v) (q : RDs T.K m h.length H ds vs) (e : inD h d ds = some k) : flatV v = true ∧ vs.all flatV = true ∧ inV v vs = k := by
  unfold inD at e
  split at e
  · rename_i hc
    cases e
    exact ⟨flat_rd r hc.1, flat_all q hc.2, any_rd r hc.1 q hc.2⟩
  · cases e
theorem inA_of {x c : D} {ys : List D} {k : Bool} (e : inA h x c ys = some k) : inD h x ys = some k ∨ inS h x c = some k := by
  unfold inA at e
  split at e
  · rename_i b e1
    cases e
    exact .inl e1
  · exact .inr e
def rInS (K : PySem.W.Frag) (no : Bool) : R2 := fun x y H Q => ∃ (d : PyData) (ds : List PyData), Dp K H x d ∧ SeqAt.shaped d = true ∧ ((Dp K H y (.list ds) ∧ SeqAt.shaped (.list ds) = true) ∨ (Dp K H y (.tuple ds) ∧ SeqAt.shaped (.tuple ds) = true)) ∧ Q (.bl (if no = true then !(ds.any fun z => PyData.eqv z d) else ds.any fun z => PyData.eqv z d)) H
theorem inS_rd (rh : RH T m h H) {x c : D} {v w : V} {k : Bool} {no : Bool} {Q : VK} (r : RD T.K m h.length H x v) (rc : RD T.K m h.length H c w) (e : inS h x c = some k) (q : Q (.bl (if no = true then !k else k)) H) : rInS T.K no v w H Q := by
  unfold inS at e
  split at e
  · rename_i ps p e1 e2
    split at e
    · rename_i hs
      cases e
      exact ⟨p, ps, toPD_dp rh _ _ _ _ e2 r, hs.1, .inl ⟨toPD_dp rh _ _ _ _ e1 rc, hs.2⟩, q⟩
    · cases e
  · rename_i ps p e1 e2
    split at e
    · rename_i hs
      cases e
      exact ⟨p, ps, toPD_dp rh _ _ _ _ e2 r, hs.1, .inr ⟨toPD_dp rh _ _ _ _ e1 rc, hs.2⟩, q⟩
    · cases e
  · cases e
theorem isNon_rd {d : D} {v : V} (r : RD T.K m h.length H d v) : decide (v = V.non) = isNon d := by
  cases r <;> simp [isNon]
theorem atI_rd {ds : List D} {vs : List V} {i : Int} {d : D} (r : RDs T.K m h.length H ds vs) (e : atI ds i = some d) : ∃ v, atI vs i = some v ∧ RD T.K m h.length H d v := by
  unfold atI at e ⊢
  rw [← r.length]
  cases q : ixN ds.length i with
  | none => rw [q] at e; cases e
  | some j =>
    rw [q] at e
    exact r.get e
end
section
variable {X : Cx} {cv : Nat → Value} {fn : Nat → Str} {xs : Xs} {W : WX} {pos : Pos} {a b c : Expr} {fa fb fc : ED}
theorem PO.ofB {T : Fx} {W : WX} {σ : L2.St} {m : Nat → Addr} {h : Hh} {H : Hp} {o : Option Bool} {f : Bool → Bool} {Q : VK} (p : PO T W (rdR T) σ m h H (ofB o f h) Q) (rh : RH T m h H) : ∃ k, o = some k ∧ Q (.bl (f k)) H := by
  cases o with
  | none => exact p.elim
  | some k => exact ⟨k, rfl, PO.here p rh (.bl _)⟩
theorem op_inS (hu : X.A.units + 65 < cLine) (no : Bool) : OpR X (compareOp (if no = true then .NotIn else .In)) (rInS X.K no) := by
  intro pins s σ H x y v u Q I rx ry hh
  obtain ⟨d, ds, hd, sd, hy, q⟩ := hh
  obtain ⟨as, r1⟩ := Dp.reads I d x v hd rx
  rcases hy with ⟨hl, sl⟩ | ⟨hl, sl⟩
  · obtain ⟨bs, r2⟩ := Dp.reads I (.list ds) y u hl ry
    cases no with
    | false => exact SeqAt.in_list_reads r2 r1 (SeqAt.canLay_of_shaped sl) (SeqAt.canLay_of_shaped sd) (PyProof.Rows.room_in_shaped sd hu) ⟨.bl _, H, I, rfl, q⟩
    | true => exact SeqAt.notIn_list_reads r2 r1 (SeqAt.canLay_of_shaped sl) (SeqAt.canLay_of_shaped sd) (PyProof.Rows.room_in_shaped sd hu) ⟨.bl _, H, I, rfl, q⟩
  · obtain ⟨bs, r2⟩ := Dp.reads I (.tuple ds) y u hl ry
    cases no with
    | false => exact SeqAt.in_tuple_reads r2 r1 (SeqAt.canLay_of_shaped sl) (SeqAt.canLay_of_shaped sd) (PyProof.Rows.room_in_shaped sd hu) ⟨.bl _, H, I, rfl, q⟩
    | true => exact SeqAt.notIn_tuple_reads r2 r1 (SeqAt.canLay_of_shaped sl) (SeqAt.canLay_of_shaped sd) (PyProof.Rows.room_in_shaped sd hu) ⟨.bl _, H, I, rfl, q⟩
theorem is_bl (pins : List (Addr × Obj)) (s : Shared) (σ : L2.St) (H : Hp) (v u : Value) (Q : VK) (I : Inv X pins σ H s) {a b : Bool} (rx : RelV (.bl a) v) (ry : RelV (.bl b) u) (no : Bool) (c : CmpOp) (hc : c = if no = true then .IsNot else .Is) (q : Q (.bl (if no = true then !(a == b) else (a == b))) H) :
    wpAny (model X.prog X.w) X.A (compareOp c v u) (EP X pins σ Q) X.xe s := by
  subst hc
  obtain rfl : v = Value.bool a := rx
  obtain rfl : u = Value.bool b := ry
  have e : (Value.bool a == Value.bool b) = (a == b) := by cases a <;> cases b <;> rfl
  cases no with
  | false => exact wpAny_is_plain rfl ⟨.bl (a == b), H, I, by rw [e]; rfl, q⟩
  | true => exact wpAny_isNot_plain rfl ⟨.bl (!(a == b)), H, I, by rw [e]; rfl, q⟩
theorem o_cmp (hu : X.A.units + 65 < cLine) (op : CmpOp) : OpR X (compareOp op) (r2 (FX X cv fn xs) (bcmp op)) := by
  intro pins s σ0 H x y v u Q I rx ry hh
  obtain ⟨W, σ, m, h, d1, d2, rh, ra, rb, p⟩ := hh
  have hu4 : X.A.units + 64 < cLine := by omega
  unfold bcmp at p
  split at p
  · obtain ⟨k, e, q⟩ := p.ofB rh
    unfold eqD at e
    split at e
    · cases ra; cases rb; cases e
      refine op_eq pins s σ0 H _ _ v u Q I rx ry ⟨rfl, ?_⟩
      rw [dec_int, ← Bool.beq_eq_decide_eq] at *
      exact q
    · cases ra; cases rb; cases e
      refine op_eq pins s σ0 H _ _ v u Q I rx ry ⟨rfl, ?_⟩
      rw [dec_str, ← Bool.beq_eq_decide_eq] at *
      exact q
    · cases ra; cases rb; cases e
      refine op_eq pins s σ0 H _ _ v u Q I rx ry ⟨rfl, ?_⟩
      rw [dec_bl, ← Bool.beq_eq_decide_eq] at *
      exact q
    · split at e
      · rename_i e1 e2
        split at e
        · rename_i hs
          cases e
          exact op_eqD hu4 pins s σ0 H _ _ v u Q I rx ry ⟨_, _, toPD_dp rh 12 _ _ _ e1 ra, toPD_dp rh 12 _ _ _ e2 rb, hs.1, hs.2, q⟩
        · cases e
      · cases e
  · obtain ⟨k, e, q⟩ := p.ofB rh
    unfold eqD at e
    split at e
    · cases ra; cases rb; cases e
      refine op_ne pins s σ0 H _ _ v u Q I rx ry ⟨rfl, ?_⟩
      rw [dec_int, ← Bool.beq_eq_decide_eq] at *
      exact q
    · cases ra; cases rb; cases e
      refine op_ne pins s σ0 H _ _ v u Q I rx ry ⟨rfl, ?_⟩
      rw [dec_str, ← Bool.beq_eq_decide_eq] at *
      exact q
    · cases ra; cases rb; cases e
      refine op_ne pins s σ0 H _ _ v u Q I rx ry ⟨rfl, ?_⟩
      rw [dec_bl, ← Bool.beq_eq_decide_eq] at *
      exact q
    · split at e
      · rename_i e1 e2
        split at e
        · rename_i hs
          cases e
          exact op_neD hu4 pins s σ0 H _ _ v u Q I rx ry ⟨_, _, toPD_dp rh 12 _ _ _ e1 ra, toPD_dp rh 12 _ _ _ e2 rb, hs.1, hs.2, q⟩
        · cases e
      · cases e
  · cases ra; cases rb; exact op_lt pins s σ0 H _ _ v u Q I rx ry ⟨_, _, rfl, rfl, p.here rh (.bl _)⟩
  · cases ra; cases rb; exact op_le pins s σ0 H _ _ v u Q I rx ry ⟨_, _, rfl, rfl, p.here rh (.bl _)⟩
  · cases ra; cases rb; exact op_gt pins s σ0 H _ _ v u Q I rx ry ⟨_, _, rfl, rfl, p.here rh (.bl _)⟩
  · cases ra; cases rb; exact op_ge pins s σ0 H _ _ v u Q I rx ry ⟨_, _, rfl, rfl, p.here rh (.bl _)⟩
  · cases rb
    refine op_isN pins s σ0 H _ _ v u Q I rx ry ⟨rfl, ?_⟩
    rw [isNon_rd ra]
    exact p.here rh (.bl _)
  · cases rb
    refine op_notN pins s σ0 H _ _ v u Q I rx ry ⟨rfl, ?_⟩
    rw [isNon_rd ra]
    exact p.here rh (.bl _)
  · cases ra; cases rb; exact op_in_str pins s σ0 H _ _ v u Q I rx ry ⟨_, _, rfl, rfl, p.here rh (.bl _)⟩
  · cases ra; cases rb; exact op_notin_str pins s σ0 H _ _ v u Q I rx ry ⟨_, _, rfl, rfl, p.here rh (.bl _)⟩
  · have rb0 := rb
    cases rb
    split at p
    · rename_i e
      obtain ⟨k, e2, q⟩ := p.ofB rh
      obtain ⟨_, vs, sq, r⟩ := rh.lst e
      rcases inA_of e2 with e2 | e2
      · obtain ⟨f1, f2, f3⟩ := inD_rd ra r e2
        exact op_in_seq pins s σ0 H _ _ v u Q I rx ry ⟨_, vs, rfl, .inl sq, f1, f2, by rw [if_neg Bool.false_ne_true, f3]; exact q⟩
      · exact op_inS hu false pins s σ0 H _ _ v u Q I rx ry (inS_rd rh ra rb0 e2 q)
    · exact p.elim
  · have rb0 := rb
    cases rb with
    | tup sq r =>
      obtain ⟨k, e2, q⟩ := p.ofB rh
      rcases inA_of e2 with e2 | e2
      · obtain ⟨f1, f2, f3⟩ := inD_rd ra r e2
        exact op_in_seq pins s σ0 H _ _ v u Q I rx ry ⟨_, _, rfl, .inr sq, f1, f2, by rw [if_neg Bool.false_ne_true, f3]; exact q⟩
      · exact op_inS hu false pins s σ0 H _ _ v u Q I rx ry (inS_rd rh ra rb0 e2 q)
  · have rb0 := rb
    cases rb
    split at p
    · rename_i e
      obtain ⟨k, e2, q⟩ := p.ofB rh
      obtain ⟨_, vs, sq, r⟩ := rh.lst e
      rcases inA_of e2 with e2 | e2
      · obtain ⟨f1, f2, f3⟩ := inD_rd ra r e2
        exact op_notIn_seq pins s σ0 H _ _ v u Q I rx ry ⟨_, vs, rfl, .inl sq, f1, f2, by rw [if_pos rfl, f3]; exact q⟩
      · exact op_inS hu true pins s σ0 H _ _ v u Q I rx ry (inS_rd rh ra rb0 e2 q)
    · exact p.elim
  · have rb0 := rb
    cases rb with
    | tup sq r =>
      obtain ⟨k, e2, q⟩ := p.ofB rh
      rcases inA_of e2 with e2 | e2
      · obtain ⟨f1, f2, f3⟩ := inD_rd ra r e2
        exact op_notIn_seq pins s σ0 H _ _ v u Q I rx ry ⟨_, _, rfl, .inr sq, f1, f2, by rw [if_pos rfl, f3]; exact q⟩
      · exact op_inS hu true pins s σ0 H _ _ v u Q I rx ry (inS_rd rh ra rb0 e2 q)
  · cases ra; cases rb
    exact is_bl pins s σ0 H v u Q I rx ry false _ rfl (p.here rh (.bl _))
  · cases ra; cases rb
    exact is_bl pins s σ0 H v u Q I rx ry true _ rfl (p.here rh (.bl _))
  · cases ra; cases rb; exact op_le_str pins s σ0 H _ _ v u Q I rx ry ⟨_, _, rfl, rfl, p.here rh (.bl _)⟩
  · cases ra; cases rb; exact op_lt_str pins s σ0 H _ _ v u Q I rx ry ⟨_, _, rfl, rfl, p.here rh (.bl _)⟩
  · exact p.elim
theorem s_cmp {op : CmpOp} (hu : X.A.units + 65 < cLine) (ha : PE X a (PE_ (FX X cv fn xs) W fa)) (hb : PE X b (PE_ (FX X cv fn xs) W fb)) (hm : behindInMarks op b = false) : PE X (.Compare a [op] [b] pos) (PE_ (FX X cv fn xs) W (dCmp op fa fb)) :=
  peImp (pe_cmpR (o_cmp hu op) ha hb hm) fun _ _ _ q => bind2 q
theorem st_cmp {op : CmpOp} (hu : X.A.units + 65 < cLine) (ha : PE X a (PE_ (FX X cv fn xs) W fa)) (hb : PE X b (PE_ (FX X cv fn xs) W fb)) (hm : behindInMarks op b = false) : PT X (.Compare a [op] [b] pos) (PT_ (FX X cv fn xs) W (tB (dCmp op fa fb))) := by
  refine ptImp (pt_cmpR (o_cmp (cv := cv) (fn := fn) (xs := xs) hu op) ha hb hm) fun σ H Q q => ?_
  obtain ⟨m, e, h, rh, re, p⟩ := q
  refine bind2 (T := FX X cv fn xs) (W := W) ⟨m, e, h, rh, re, p.bind fun a h1 m1 H1 x g1 rh1 ra p1 => ?_⟩
  cases a with
  | bl k =>
    cases ra
    exact ⟨k, rfl, p1.here rh1 rfl⟩
  | _ => exact p1.elim
theorem blOf_bind {T : Fx} {W : WX} {α β : Type} {RA : (Nat → Addr) → Nat → Hp → α → β → Prop} {σ : L2.St} {m : Nat → Addr} {h : Hh} {H : Hp} {d : D} {v : V} {k : Bool → Hh → R α} {Q : β → Hp → Prop} (p : PO T W RA σ m h H (blOf d h k) Q) (r : RD T.K m h.length H d v) :
    ∃ b, d = .bl b ∧ v = .bl b ∧ PO T W RA σ m h H (k b h) Q := by
  cases d with
  | bl b => cases r; exact ⟨b, rfl, rfl, p⟩
  | _ => exact p.elim
theorem chain_rd {op op' : CmpOp} {σ : L2.St} {H : Hp} {Q : VK} (q : PE_ (FX X cv fn xs) W (dCh op op' fa fb fc) σ H Q) :
    tChain (r2 (FX X cv fn xs) (bcmp op)) (r2 (FX X cv fn xs) (bcmp op')) (PE_ (FX X cv fn xs) W fa) (PE_ (FX X cv fn xs) W fb) (PE_ (FX X cv fn xs) W fc) σ H Q := by
  obtain ⟨m, e, h, rh, re, p⟩ := q
  refine ⟨m, e, h, rh, re, p.bind fun x h1 m1 H1 xv g1 rh1 rx p1 => ⟨m1, e, h1, rh1, g1.re re, p1.bind fun y h2 m2 H2 yv g2 rh2 ry p2 => ?_⟩⟩
  refine ⟨W, σ, m2, h2, x, y, rh2, g2.rd rx, ry, p2.bind fun z h3 m3 H3 zv g3 rh3 rz p3 => ?_⟩
  obtain ⟨k, _, ez, p3⟩ := blOf_bind p3 rz
  refine ⟨k, ez, ?_⟩
  cases k with
  | true =>
    rw [if_pos rfl] at p3 ⊢
    exact ⟨m3, e, h3, rh3, g3.re (g2.re (g1.re re)), p3.bind fun w h4 m4 H4 wv g4 rh4 rw' p4 => ⟨W, σ, m4, h4, y, w, rh4, g4.rd (g3.rd ry), rw', p4⟩⟩
  | false =>
    rw [if_neg Bool.false_ne_true] at p3 ⊢
    exact p3.here rh3 (.bl _)
theorem s_chain {op op' : CmpOp} (hu : X.A.units + 65 < cLine) (ha : PE X a (PE_ (FX X cv fn xs) W fa)) (hb : PE X b (PE_ (FX X cv fn xs) W fb)) (hc : PE X c (PE_ (FX X cv fn xs) W fc))
    (hm : lastMarks [op, op'] [b, c] = false) : PE X (.Compare a [op, op'] [b, c] pos) (PE_ (FX X cv fn xs) W (dCh op op' fa fb fc)) :=
  peImp (pe_chain (o_cmp (cv := cv) (fn := fn) (xs := xs) hu op) (o_cmp (cv := cv) (fn := fn) (xs := xs) hu op') ha hb hc hm) fun σ H Q q => chain_rd q
theorem tB_rd {f : ED} {σ : L2.St} {H : Hp} {Q : Bool → Hp → Prop} (q : PT_ (FX X cv fn xs) W (tB f) σ H Q) : PE_ (FX X cv fn xs) W f σ H fun x H1 => ∃ k, x = .bl k ∧ Q k H1 := by
  obtain ⟨m, e, h, rh, re, p⟩ := q
  refine ⟨m, e, h, rh, re, p.bind fun a h1 m1 H1 x g1 rh1 ra p1 => ?_⟩
  cases a with
  | bl k =>
    cases ra
    exact ⟨k, rfl, PO.here p1 rh1 rfl⟩
  | _ => exact p1.elim
theorem st_chain {op op' : CmpOp} (hu : X.A.units + 65 < cLine) (ha : PE X a (PE_ (FX X cv fn xs) W fa)) (hb : PE X b (PE_ (FX X cv fn xs) W fb)) (hc : PE X c (PE_ (FX X cv fn xs) W fc))
    (hm : lastMarks [op, op'] [b, c] = false) : PT X (.Compare a [op, op'] [b, c] pos) (PT_ (FX X cv fn xs) W (tB (dCh op op' fa fb fc))) :=
  ptImp (pt_chain (o_cmp (cv := cv) (fn := fn) (xs := xs) hu op) (o_cmp (cv := cv) (fn := fn) (xs := xs) hu op') ha hb hc hm) fun σ H Q q => chain_rd (tB_rd q)
theorem s_if {t : TD} (hc : PT X c (PT_ (FX X cv fn xs) W t)) (ha : PE X a (PE_ (FX X cv fn xs) W fa)) (hb : PE X b (PE_ (FX X cv fn xs) W fb)) : PE X (.IfExp c a b pos) (PE_ (FX X cv fn xs) W (dIf t fa fb)) :=
  peImp (pe_ifExp hc ha hb) fun σ H Q q => by
    obtain ⟨m, e, h, rh, re, p⟩ := q
    refine ⟨m, e, h, rh, re, p.bind fun x h1 m1 H1 xv g1 rh1 rx p1 => ?_⟩
    subst rx
    cases x with
    | true => rw [if_pos rfl] at p1 ⊢; exact ⟨m1, e, h1, rh1, g1.re re, p1⟩
    | false => rw [if_neg Bool.false_ne_true] at p1 ⊢; exact ⟨m1, e, h1, rh1, g1.re re, p1⟩
theorem o_ix : IxR X (r2 (FX X cv fn xs) ixD) := by
  intro value slice pins s σ0 H x y v u Q I rx ry hh hs
  obtain ⟨W, σ, m, h, d1, d2, rh, ra, rb, p⟩ := hh
  unfold ixD at p
  split at p
  · cases ra with
    | tup sq r =>
      cases rb
      split at p
      · rename_i d e
        obtain ⟨w, e1, rw'⟩ := atI_rd r e
        exact ix_tup value slice pins s σ0 H _ _ v u Q I rx ry ⟨_, _, _, w, rfl, rfl, sq, e1, p.here rh rw'⟩ hs
      · exact p.elim
  · cases ra
    cases rb
    split at p
    · rename_i e0
      split at p
      · rename_i d e
        obtain ⟨_, vs, sq, r⟩ := rh.lst e0
        obtain ⟨w, e1, rw'⟩ := atI_rd r e
        exact ix_list value slice pins s σ0 H _ _ v u Q I rx ry ⟨_, _, _, w, rfl, rfl, sq, e1, p.here rh rw'⟩ hs
      · exact p.elim
    · exact p.elim
  · cases ra
    cases rb
    split at p
    · rename_i hz
      split at p
      · rename_i d e
        exact ix_str value slice pins s σ0 H _ _ v u Q I rx ry ⟨_, _, _, rfl, rfl, by rw [sizeLine_eq]; exact hz, e, p.here rh (.str _)⟩ hs
      · exact p.elim
    · exact p.elim
  · exact p.elim
theorem s_ix (ha : PE X a (PE_ (FX X cv fn xs) W fa)) (hb : PE X b (PE_ (FX X cv fn xs) W fb)) (hs : PlainIx b) : PE X (.Subscript a b pos) (PE_ (FX X cv fn xs) W (dIx fa fb)) :=
  peImp (pe_ix o_ix ha hb hs) fun _ _ _ q => bind2 q
theorem s_aN : PA X [] (PA_ (FX X cv fn xs) W aN) := paImp pa_nil fun σ H Q q => by
  obtain ⟨m, e, h, rh, re, p⟩ := q
  exact p.here rh .nil
theorem s_aC {es : List Expr} {r : AD} (ha : PE X a (PE_ (FX X cv fn xs) W fa)) (hr : PA X es (PA_ (FX X cv fn xs) W r)) (hs : starEach (a :: es) X.env = (false, eval a X.env) :: starEach es X.env) : PA X (a :: es) (PA_ (FX X cv fn xs) W (aC fa r)) :=
  paImp (pa_cons ha hr hs) fun σ H Q q => by
    obtain ⟨m, e, h, rh, re, p⟩ := q
    exact ⟨m, e, h, rh, re, p.bind fun x h1 m1 H1 xv g1 rh1 rx p1 => ⟨m1, e, h1, rh1, g1.re re, p1.bind fun xs h2 m2 H2 xsv g2 rh2 rxs p2 => p2.here rh2 (.cons (g2.rd rx) rxs)⟩⟩
theorem s_tup {es : List Expr} {r : AD} {k : Nat} (hr : PA X es (PA_ (FX X cv fn xs) W r)) : PE X (.Tuple es k pos) (PE_ (FX X cv fn xs) W (dTup r)) :=
  peImp (pe_tup hr) fun σ H Q q => by
    obtain ⟨m, e, h, rh, re, p⟩ := q
    refine ⟨m, e, h, rh, re, p.bind fun xs h1 m1 H1 vs g1 rh1 rx p1 => ?_⟩
    split at p1
    · rename_i hz
      exact ⟨by rw [sizeLine_eq, ← rx.length]; exact hz, p1.newT rh1 rx⟩
    · exact p1.elim
theorem s_lst {es : List Expr} {r : AD} (hr : PA X es (PA_ (FX X cv fn xs) W r)) : PE X (.List es pos) (PE_ (FX X cv fn xs) W (dLst r)) :=
  peImp (pe_lst hr) fun σ H Q q => by
    obtain ⟨m, e, h, rh, re, p⟩ := q
    refine ⟨m, e, h, rh, re, p.bind fun xs h1 m1 H1 vs g1 rh1 rx p1 => ?_⟩
    split at p1
    · rename_i hz
      exact ⟨by rw [sizeLine_eq, ← rx.length]; exact hz, p1.new rh1 rx⟩
    · exact p1.elim
theorem bindN {T : Fx} {fs : AD} {g : FD} {σ : L2.St} {H : Hp} {Q : VK} (q : PE_ T W (dCall g fs []) σ H Q) : PA_ T W fs σ H fun xs H1 => rN T g xs H1 Q := by
  obtain ⟨m, e, h, rh, re, p⟩ := q
  exact ⟨m, e, h, rh, re, p.bind fun ds h1 m1 H1 vs g1 rh1 rx p1 => ⟨W, σ, m1, h1, ds, rh1, rx, by rw [List.append_nil] at p1; exact p1⟩⟩
theorem rds1 {K : PySem.W.Frag} {m : Nat → Addr} {N : Nat} {H : Hp} {d : D} {vs : List V} (r : RDs K m N H [d] vs) : ∃ v, vs = [v] ∧ RD K m N H d v := by
  cases r with
  | cons a b => cases b; exact ⟨_, rfl, a⟩
theorem rds2 {K : PySem.W.Frag} {m : Nat → Addr} {N : Nat} {H : Hp} {d d' : D} {vs : List V} (r : RDs K m N H [d, d'] vs) : ∃ v v', vs = [v, v'] ∧ RD K m N H d v ∧ RD K m N H d' v' := by
  cases r with
  | cons a b => cases b with
    | cons a' b' => cases b'; exact ⟨_, _, rfl, a, a'⟩
theorem c_len : CallR X (.builtin "len") (rN (FX X cv fn xs) fLen) := by
  intro pins s σ0 H xs us Q I r hh
  obtain ⟨W, σ, m, h, ds, rh, rx, p⟩ := hh
  unfold fLen at p
  split at p
  · obtain ⟨v, rfl, a⟩ := rds1 rx
    cases a with
    | tup sq q =>
      refine call_len pins s σ0 H _ us Q I r ⟨_, _, rfl, .inr ⟨_, sq, rfl⟩, ?_⟩
      rw [← q.length]
      exact p.here rh (.int _)
  · obtain ⟨v, rfl, a⟩ := rds1 rx
    cases a
    split at p
    · rename_i e
      obtain ⟨_, vs, sq, q⟩ := rh.lst e
      refine call_len pins s σ0 H _ us Q I r ⟨_, _, rfl, .inl ⟨_, sq, rfl⟩, ?_⟩
      rw [← q.length]
      exact p.here rh (.int _)
    · exact p.elim
  · obtain ⟨v, rfl, a⟩ := rds1 rx
    cases a
    split at p
    · rename_i hz
      exact call_len pins s σ0 H _ us Q I r ⟨_, _, rfl, ⟨by rw [sizeLine_eq]; exact hz, rfl⟩, p.here rh (.int _)⟩
    · exact p.elim
  · exact p.elim
theorem c_abs : CallR X (.builtin "abs") (rN (FX X cv fn xs) fAbs) := by
  intro pins s σ0 H xs us Q I r hh
  obtain ⟨W, σ, m, h, ds, rh, rx, p⟩ := hh
  unfold fAbs at p
  split at p
  · obtain ⟨v, rfl, a⟩ := rds1 rx
    cases a
    exact call_abs pins s σ0 H _ us Q I r ⟨_, rfl, p.here rh (.int _)⟩
  · exact p.elim
theorem c_int : CallR X (.type "int") (rN (FX X cv fn xs) fInt) := by
  intro pins s σ0 H xs us Q I r hh
  obtain ⟨W, σ, m, h, ds, rh, rx, p⟩ := hh
  unfold fInt at p
  split at p
  · obtain ⟨v, rfl, a⟩ := rds1 rx
    cases a
    split at p
    · rename_i n e
      split at p
      · rename_i hz
        exact call_int_str pins s σ0 H _ us Q I r ⟨_, n, rfl, e, hz, p.here rh (.int _)⟩
      · exact p.elim
    · exact p.elim
  · obtain ⟨v, rfl, a⟩ := rds1 rx
    cases a
    exact call_int1 pins s σ0 H _ us Q I r (.inl ⟨_, rfl, p.here rh (.int _)⟩)
  · obtain ⟨v, rfl, a⟩ := rds1 rx
    cases a
    exact call_int1 pins s σ0 H _ us Q I r (.inr ⟨_, rfl, p.here rh (.int _)⟩)
  · exact p.elim
theorem c_str : CallR X (.type "str") (rN (FX X cv fn xs) fStr) := by
  intro pins s σ0 H xs us Q I r hh
  obtain ⟨W, σ, m, h, ds, rh, rx, p⟩ := hh
  unfold fStr at p
  split at p
  · obtain ⟨v, rfl, a⟩ := rds1 rx
    cases a
    split at p
    · rename_i hz
      exact call_str_int pins s σ0 H _ us Q I r ⟨_, rfl, hz, p.here rh (.str _)⟩
    · exact p.elim
  · exact p.elim
theorem c_strL (hc : X.calm = true) (hdg : X.base.NoDigits) : CallR X (.type "str") (rN (FX X cv fn xs) fStrL) := by
  intro pins s σ0 H ys us Q I r hh
  obtain ⟨W, σ, m, h, ds, rh, rx, p⟩ := hh
  unfold fStrL at p
  split at p
  · obtain ⟨v, rfl, a⟩ := rds1 rx
    cases a
    split at p
    · rename_i hz
      obtain ⟨u, rfl, t, rfl⟩ := vals1 r
      exact PyProof.Rows.str_of_int_or (I.ok.hd hc) (hdg.keeps I.bk) (fun _ => ⟨.str _, H, I.tok _, ⟨_, rfl⟩, p.here rh (.str _)⟩) fun z => absurd hz (Nat.not_lt.mpr z)
    · exact p.elim
  · exact p.elim
theorem c_gcd : CallR X (.builtin "math.gcd") (rN (FX X cv fn xs) fGcd) := by
  intro pins s σ0 H xs us Q I r hh
  obtain ⟨W, σ, m, h, ds, rh, rx, p⟩ := hh
  unfold fGcd at p
  split at p
  · obtain ⟨v, v', rfl, a, a'⟩ := rds2 rx
    cases a
    cases a'
    exact cr_gcd pins s σ0 H _ us Q I r ⟨_, _, rfl, p.here rh (.int _)⟩
  · exact p.elim
theorem cr_range1 : CallR X (.type "range") (fun vs H Q => ∃ j, vs = [V.int j] ∧ ∀ p, H p = none → Q (.ref p) (upd H p (.rng 0 j))) := by
  intro pins s σ H vs us Q I r h
  obtain ⟨j, rfl, q⟩ := h
  obtain ⟨u1, rfl, rj⟩ := vals1 r
  obtain ⟨t, rfl⟩ := rj
  refine call_range_1 ⟨.ref s.heap.objs.size, upd H s.heap.objs.size (.rng 0 j), I.laid (t' := s.toks + 1 + 1) (fun b o e => Heap.get?_push_of_some _ e) (Nat.le_refl _) ?_, rfl, q _ (I.hok.fresh (Nat.le_refl _))⟩
  exact ⟨_, _, _, Heap.get?_push_size _ rfl⟩
theorem PO.newR {T : Fx} {W : WX} {σ : L2.St} {m : Nat → Addr} {h : Hh} {H : Hp} {lo hi : Int} {Q : VK} (p : PO T W (rdR T) σ m h H (.ok (.rg lo hi) h) Q) (rh : RH T m h H) :
    ∀ q, H q = none → Q (.ref q) (upd H q (.rng lo hi)) := fun q hq => by
  obtain ⟨g, rh'⟩ := rh.lay (u := .rng lo hi) hq
  exact p m _ _ g rh' (.rg upd_same)
theorem c_rng1 : CallR X (.type "range") (rN (FX X cv fn xs) fRng1) := by
  intro pins s σ0 H xs us Q I r hh
  obtain ⟨W, σ, m, h, ds, rh, rx, p⟩ := hh
  unfold fRng1 at p
  split at p
  · obtain ⟨v, rfl, a⟩ := rds1 rx
    cases a
    exact cr_range1 pins s σ0 H _ us Q I r ⟨_, rfl, p.newR rh⟩
  · exact p.elim
theorem c_list : CallR X (.type "list") (rN (FX X cv fn xs) fList) := by
  intro pins s σ0 H xs us Q I r hh
  obtain ⟨W, σ, m, h, ds, rh, rx, p⟩ := hh
  unfold fList at p
  split at p
  · obtain ⟨v, rfl, a⟩ := rds1 rx
    cases a
    split at p
    · rename_i e
      obtain ⟨_, vs, sq, q⟩ := rh.lst e
      exact call_list_of pins s σ0 H _ us Q I r ⟨_, _, rfl, .inl sq, p.new rh q⟩
    · exact p.elim
  · obtain ⟨v, rfl, a⟩ := rds1 rx
    cases a with
    | tup sq q => exact call_list_of pins s σ0 H _ us Q I r ⟨_, _, rfl, .inr sq, p.new rh q⟩
  · exact p.elim
theorem c_tuple : CallR X (.type "tuple") (rN (FX X cv fn xs) fTuple) := by
  intro pins s σ0 H xs us Q I r hh
  obtain ⟨W, σ, m, h, ds, rh, rx, p⟩ := hh
  unfold fTuple at p
  split at p
  · obtain ⟨v, rfl, a⟩ := rds1 rx
    cases a
    split at p
    · rename_i e
      obtain ⟨_, vs, sq, q⟩ := rh.lst e
      exact call_tuple_of pins s σ0 H _ us Q I r ⟨_, _, rfl, .inl ⟨sq, p.newT rh q⟩⟩
    · exact p.elim
  · obtain ⟨v, rfl, a⟩ := rds1 rx
    cases a with
    | tup sq q => exact call_tuple_of pins s σ0 H _ us Q I r ⟨_, _, rfl, .inr ⟨sq, p.here rh (.tup sq q)⟩⟩
  · exact p.elim
theorem intsOf_rd {T : Fx} {m : Nat → Addr} {h : Hh} {H : Hp} : ∀ {ds : List D} {vs : List V} {ns : List Int}, RDs T.K m h.length H ds vs → intsOf ds = some ns → vs = ns.map V.int
  | _, _, _, .nil, e => by cases e; rfl
  | d :: ds, _, ns, .cons a b, e => by
    cases d with
    | int i =>
      obtain ⟨ms, e1, rfl⟩ := Option.map_eq_some_iff.mp (show (intsOf ds).map (i :: ·) = some ns from e)
      cases a
      rw [intsOf_rd b e1]
      rfl
    | _ => cases e
theorem blsOf_rd {T : Fx} {m : Nat → Addr} {h : Hh} {H : Hp} : ∀ {ds : List D} {vs : List V} {ns : List Bool}, RDs T.K m h.length H ds vs → blsOf ds = some ns → vs = ns.map V.bl
  | _, _, _, .nil, e => by cases e; rfl
  | d :: ds, _, ns, .cons a b, e => by
    cases d with
    | bl i =>
      obtain ⟨ms, e1, rfl⟩ := Option.map_eq_some_iff.mp (show (blsOf ds).map (i :: ·) = some ns from e)
      cases a
      rw [blsOf_rd b e1]
      rfl
    | _ => cases e
theorem c_sum (hc : X.calm = true) : CallR X (.builtin "sum") (rN (FX X cv fn xs) fSum) := by
  intro pins s σ0 H xs us Q I r hh
  obtain ⟨W, σ, m, h, ds, rh, rx, p⟩ := hh
  unfold fSum at p
  split at p
  · obtain ⟨v, rfl, a⟩ := rds1 rx
    cases a
    split at p
    · rename_i ns e
      obtain ⟨es, e1, e2⟩ := Option.bind_eq_some_iff.mp e
      obtain ⟨_, vs, sq, q⟩ := rh.lst e1
      have z := intsOf_rd q e2
      subst z
      exact cr_sum hc pins s σ0 H _ us Q I r ⟨_, _, rfl, sq, p.here rh (.int _)⟩
    · exact p.elim
  · exact p.elim
theorem c_all (hc : X.calm = true) : CallR X (.builtin "all") (rN (FX X cv fn xs) fAll) := by
  intro pins s σ0 H xs us Q I r hh
  obtain ⟨W, σ, m, h, ds, rh, rx, p⟩ := hh
  unfold fAll at p
  split at p
  · obtain ⟨v, rfl, a⟩ := rds1 rx
    cases a
    split at p
    · rename_i ns e
      obtain ⟨es, e1, e2⟩ := Option.bind_eq_some_iff.mp e
      obtain ⟨_, vs, sq, q⟩ := rh.lst e1
      have z := blsOf_rd q e2
      subst z
      exact cr_all hc pins s σ0 H _ us Q I r ⟨_, _, rfl, sq, p.here rh (.bl _)⟩
    · exact p.elim
  · exact p.elim
theorem c_any (hc : X.calm = true) : CallR X (.builtin "any") (rN (FX X cv fn xs) fAny) := by
  intro pins s σ0 H xs us Q I r hh
  obtain ⟨W, σ, m, h, ds, rh, rx, p⟩ := hh
  unfold fAny at p
  split at p
  · obtain ⟨v, rfl, a⟩ := rds1 rx
    cases a
    split at p
    · rename_i ns e
      obtain ⟨es, e1, e2⟩ := Option.bind_eq_some_iff.mp e
      obtain ⟨_, vs, sq, q⟩ := rh.lst e1
      have z := blsOf_rd q e2
      subst z
      exact cr_any hc pins s σ0 H _ us Q I r ⟨_, _, rfl, sq, p.here rh (.bl _)⟩
    · exact p.elim
  · exact p.elim
theorem c_max (hc : X.calm = true) : CallR X (.builtin "max") (rN (FX X cv fn xs) fMax) := by
  intro pins s σ0 H xs us Q I r hh
  obtain ⟨W, σ, m, h, ds, rh, rx, p⟩ := hh
  unfold fMax at p
  split at p
  · obtain ⟨v, v', rfl, a, a'⟩ := rds2 rx
    cases a
    cases a'
    exact call_max2 hc pins s σ0 H _ us Q I r ⟨_, _, rfl, p.here rh (.int _)⟩
  · exact p.elim
theorem c_min (hc : X.calm = true) : CallR X (.builtin "min") (rN (FX X cv fn xs) fMin) := by
  intro pins s σ0 H xs us Q I r hh
  obtain ⟨W, σ, m, h, ds, rh, rx, p⟩ := hh
  unfold fMin at p
  split at p
  · obtain ⟨v, v', rfl, a, a'⟩ := rds2 rx
    cases a
    cases a'
    exact call_min2 hc pins s σ0 H _ us Q I r ⟨_, _, rfl, p.here rh (.int _)⟩
  · exact p.elim
theorem m_append : MtR X "list.append" (rM (FX X cv fn xs) mAppend) := by
  intro pins s σ0 H x xs v us Q I rx rs hh
  obtain ⟨W, σ, m, h, d, ds, rh, rd, rds, p⟩ := hh
  unfold mAppend at p
  split at p
  · cases rd
    obtain ⟨y, rfl, ry⟩ := rds1 rds
    split at p
    · rename_i e
      split at p
      · rename_i hz
        obtain ⟨hl, vs, q1, q2⟩ := rh.mut e
        obtain ⟨g, rh'⟩ := rh.putL e q1 (q2.snoc ry)
        exact mt_append pins s σ0 H _ _ v us Q I rx rs ⟨_, _, _, rfl, rfl, q1, by rw [sizeLine_eq, ← q2.length]; exact hz, p m _ _ g rh' .non⟩
      · exact p.elim
    · exact p.elim
  · exact p.elim
theorem m_pop : MtR X "list.pop" (rM (FX X cv fn xs) mPop) := by
  intro pins s σ0 H x xs v us Q I rx rs hh
  obtain ⟨W, σ, m, h, d, ds, rh, rd, rds, p⟩ := hh
  unfold mPop at p
  split at p
  · cases rd
    cases rds
    split at p
    · rename_i e
      split at p
      · rename_i y ey
        obtain ⟨hl, vs, q1, q2⟩ := rh.mut e
        obtain ⟨w, ew, rw'⟩ := q2.get ey
        rw [q2.length] at ew
        obtain ⟨g, rh'⟩ := rh.putL e q1 q2.dropLast
        exact mt_pop pins s σ0 H _ _ v us Q I rx rs ⟨_, _, _, rfl, rfl, q1, ew, p m _ _ g rh' (g.rd rw')⟩
      · exact p.elim
    · exact p.elim
  · exact p.elim
end
end Mn
namespace Mn
open PySem L2
section
variable {X : Cx} {cv : Nat → Value} {fn : Nat → Str} {xs : Xs} {W : WX} {pos : Pos} {a b c : Expr} {fa fb fc : ED} {t u : TD}
theorem truth_rd {T : Fx} {m : Nat → Addr} {h : Hh} {H : Hp} {d : D} {v : V} {k : Bool} (rh : RH T m h H) (r : RD T.K m h.length H d v) (e : truth d h = some k) : TruV T.K v H k := by
  cases d with
  | non => cases r; cases e; rfl
  | bl b => cases r; cases e; rfl
  | int i => cases r; cases e; rfl
  | rg lo hi => cases e
  | ref n =>
    cases r
    obtain ⟨ds, e1, rfl⟩ := Option.map_eq_some_iff.mp (show (lstAt h n).map _ = _ from e)
    obtain ⟨_, vs, sq, q⟩ := rh.lst e1
    refine .inl ⟨vs, sq, ?_⟩
    cases q <;> rfl
  | str s => cases e
  | tup ds => cases e
theorem st_true (ha : PE X a (PE_ (FX X cv fn xs) W fa)) (he : ∀ whole, isTrue a X.env whole = (do let v ← whole; standAt a.pos; holding [v] (truthy v))) : PT X a (PT_ (FX X cv fn xs) W (tE fa)) :=
  ptImp (pt_truth ha he) fun σ H Q q => by
    obtain ⟨m, e, h, rh, re, p⟩ := q
    refine ⟨m, e, h, rh, re, p.bind fun x h1 m1 H1 xv g1 rh1 rx p1 => ?_⟩
    split at p1
    · rename_i k e
      exact ⟨k, truth_rd rh1 rx e, p1.here rh1 rfl⟩
    · exact p1.elim
theorem st_not (ha : PT X a (PT_ (FX X cv fn xs) W t)) : PT X (.UnaryOp .Not a pos) (PT_ (FX X cv fn xs) W (tNot t)) :=
  ptImp (pt_not ha) fun σ H Q q => by
    obtain ⟨m, e, h, rh, re, p⟩ := q
    refine ⟨m, e, h, rh, re, p.bind fun x h1 m1 H1 xv g1 rh1 rx p1 => ?_⟩
    subst rx
    exact p1.here rh1 rfl
theorem pwImp {X : Cx} {e : Expr} {t t' : TT} (h : PW X e t) (w : ∀ σ H Q, t' σ H Q → t σ H Q) : PW X e t' := ⟨fun wh pins s σ H Q I q => h.run wh pins s σ H Q I (w σ H Q q)⟩
theorem sw_and {rest : List Expr} (ha : PT X a (PT_ (FX X cv fn xs) W t)) (hb : PW X (.BoolOp .And (b :: rest) pos) (PT_ (FX X cv fn xs) W u)) : PW X (.BoolOp .And (a :: b :: rest) pos) (PT_ (FX X cv fn xs) W (tAnd t u)) :=
  pwImp (pw_and ha hb) fun σ H Q q => by
    obtain ⟨m, e, h, rh, re, p⟩ := q
    refine ⟨m, e, h, rh, re, p.bind fun x h1 m1 H1 xv g1 rh1 rx p1 => ?_⟩
    subst rx
    cases x with
    | true => rw [if_pos rfl] at p1 ⊢; exact ⟨m1, e, h1, rh1, g1.re re, p1⟩
    | false => rw [if_neg Bool.false_ne_true] at p1 ⊢; exact p1.here rh1 rfl
theorem sw_or {rest : List Expr} (ha : PT X a (PT_ (FX X cv fn xs) W t)) (hb : PW X (.BoolOp .Or (b :: rest) pos) (PT_ (FX X cv fn xs) W u)) : PW X (.BoolOp .Or (a :: b :: rest) pos) (PT_ (FX X cv fn xs) W (tOr t u)) :=
  pwImp (pw_or ha hb) fun σ H Q q => by
    obtain ⟨m, e, h, rh, re, p⟩ := q
    refine ⟨m, e, h, rh, re, p.bind fun x h1 m1 H1 xv g1 rh1 rx p1 => ?_⟩
    subst rx
    cases x with
    | true => rw [if_pos rfl] at p1 ⊢; exact p1.here rh1 rfl
    | false => rw [if_neg Bool.false_ne_true] at p1 ⊢; exact ⟨m1, e, h1, rh1, g1.re re, p1⟩
def Ty.nm : Ty → String
  | .int => "int" | .bool => "bool" | .str => "str" | .tuple => "tuple" | .list => "list"
theorem ty_rd {T : Fx} {m : Nat → Addr} {h : Hh} {H : Hp} {d : D} {v : V} {t : Ty} {k : Bool} (rh : RH T m h H) (r : RD T.K m h.length H d v) (e : isTy t d h = some k) :
    ∃ ty, TyX T.K H v ty ∧ PySem.W.kitOne T.K ty (.type t.nm) = some k := by
  cases d with
  | non => cases r; cases e; exact ⟨_, .base .non, kit_ty (by cases t <;> decide +kernel)⟩
  | bl b => cases r; cases e; exact ⟨_, .base (.bl _), kit_ty (by cases t <;> decide +kernel)⟩
  | int b => cases r; cases e; exact ⟨_, .base (.int _), kit_ty (by cases t <;> decide +kernel)⟩
  | str b => cases r; cases e; exact ⟨_, .base (.str _), kit_ty (by cases t <;> decide +kernel)⟩
  | tup ds =>
    cases e
    refine ⟨.type "tuple", ?_, kit_ty (by cases t <;> decide +kernel)⟩
    cases r with
    | tup sq q =>
      rcases sq with (sq | ⟨o, sq⟩) | ⟨o, its, n, h1, h2, _⟩
      · exact .base (.tup sq)
      · exact .fTuple sq
      · exact .kTuple h1 h2
  | rg lo hi => cases e
  | ref n =>
    cases r
    obtain ⟨ds, e1, rfl⟩ := Option.map_eq_some_iff.mp (show (lstAt h n).map _ = _ from e)
    refine ⟨.type "list", ?_, kit_ty (by cases t <;> decide +kernel)⟩
    unfold lstAt at e1
    cases q : h[n]? with
    | none => rw [q] at e1; cases e1
    | some o =>
      rw [q] at e1
      have ro := rh.obj n o q
      cases o with
      | lst xs =>
        obtain ⟨vs, q1, _⟩ := ro
        exact .base (.lst q1)
      | frz xs =>
        obtain ⟨vs, q1, _⟩ := ro
        rcases q1 with ⟨ob, q1⟩ | ⟨ob, its, k, q1, q2, _⟩
        · exact .base (.frz q1)
        · exact .kList q1 q2
      | ins c fs => cases e1
theorem s_is {tn : String} {ty : Ty} {p : Pos} (ht : ty.nm = tn) (hg : Gl X "isinstance") (hm : X.mg "isinstance" = none) (hb : PE X b (tC (.ty tn))) (ha : PE X a (PE_ (FX X cv fn xs) W fa))
    (hs1 : starEach [a, b] X.env = [(false, eval a X.env), (false, eval b X.env)]) (hs2 : starEach [b] X.env = [(false, eval b X.env)]) (hpl : (backTo pos (starEach [b] X.env)).any (·.1) = false) :
    PE X (.Call (.Name "isinstance" p) [a, b] [] pos) (PE_ (FX X cv fn xs) W (dIs ty fa)) := by
  subst ht
  have hA : PA X [a, b] _ := pa_cons ha (pa_cons hb pa_nil (by rw [hs2]; rfl)) (by rw [hs1, hs2])
  refine peImp (pe_callB call_isi hg hm (by rfl) hA (by decide) (by decide) (by rw [hs1, hs2]) hpl) fun σ H Q q => ?_
  obtain ⟨m, e, h, rh, re, p⟩ := q
  refine ⟨m, e, h, rh, re, p.bind fun x h1 m1 H1 xv g1 rh1 rx p1 => ?_⟩
  obtain ⟨k, e1, q1⟩ := p1.ofB rh1
  obtain ⟨tv, h2, h3⟩ := ty_rd rh1 rx e1
  exact ⟨xv, _, tv, _, k, rfl, .ty _, h2, h3, q1⟩
def spT (T : Fx) (n : Nat) (g : FD) : Sp := fun vs H Q E => vs.length = n ∧ ∃ (m : Nat → Addr) (h : Hh) (ds : List D), RH T m h H ∧ RDs T.K m h.length H ds vs ∧ PO T (fun c d _ H => E c d H) (rdR T) [] m h H (g ds h) Q
theorem run_own {k : Nat} {f : Addr} {fd : FuncData} {ps : List Str} {sp : Sp} {ws : List Value} {dvs : List V} {E : XK} {pins : List (Addr × Obj)} {σ : L2.St} {H : Hp} {s : Shared} {Q : VK} {us : List Value} {vs : List V}
    (F : FnOk X.prog X.w X.K X.mg X.base (L2N.CX X.prog X.w) k f fd ps sp) (hr : Room k X.A) (hb : Binds X.K fd ps ws) (hd : Vals dvs ws) (hx : PassesAt (L2N.CX X.prog X.w) X σ E)
    (I : Inv X pins σ H s) (r : Vals vs us) (h : sp (vs ++ dvs) H Q E) : wpAny (model X.prog X.w) X.A (call (.ref f) us) (EP X pins σ Q) X.xe s := by
  have rr := Vals.append r hd
  have hl : (us ++ ws).length = ps.length := (rr.length.symm).trans (F.len _ _ _ _ h)
  have run := F.run X.A X.stack s H ⟨us, []⟩ (us ++ ws) (vs ++ dvs) Q E hr I.env0 (hb s us I.kIn hl) rr h
  refine wpAny_call (codeAny_mono run fun res s2 q => ?_)
  match res, q with
  | .error x, q => exact hx pins H s x s2 I q
  | .ok (.ret w), q => exact I.after q
  | .ok .next, q => exact q.elim
  | .ok .brk, q => exact q.elim
  | .ok .cont, q => exact q.elim
section
variable {k : Nat} {f : Addr} {fd : FuncData} {ps : List Str} {ws : List Value} {dvs : List V} {dds : List D} {g : FD} {x : Str} {p : Pos} {es : List Expr} {fs : AD}
theorem call_rd {σ : L2.St} {m : Nat → Addr} {h : Hh} {H : Hp} {ds : List D} {vs : List V} {Q : VK} (n : Nat) (hdd : ∀ m N H, RDs X.K m N H dds dvs) (hn : vs.length + dvs.length = n) (rh : RH (FX X cv fn xs) m h H) (r : RDs X.K m h.length H ds vs)
    (p : PO (FX X cv fn xs) W (rdR (FX X cv fn xs)) σ m h H (g (ds ++ dds) h) Q) : spT (FX X cv fn xs) n g (vs ++ dvs) H Q (WE W σ) := by
  refine ⟨by rw [List.length_append]; exact hn, m, h, ds ++ dds, rh, r.append (hdd _ _ _), ?_⟩
  cases q : g (ds ++ dds) h with
  | ok a h' => rw [q] at p; exact p
  | exc x h' => rw [q] at p; exact p
  | stuck => rw [q] at p; exact p
theorem s_call (F : FnOk X.prog X.w X.K X.mg X.base (L2N.CX X.prog X.w) k f fd ps (spT (FX X cv fn xs) ps.length g)) (hr : Room k X.A) (hg : Gl X x) (hm : X.mg x = some (.ref f)) (hk : PySem.W.keepIn X.K (.ref f) = true) (hb : Binds X.K fd ps ws) (hd : Vals dvs ws)
    (hdd : ∀ m N H, RDs X.K m N H dds dvs) (hn : (a :: es).length + dvs.length = ps.length) (hlen : ∀ e h ds h', fs e h = .ok ds h' → ds.length = (a :: es).length) (tk : L2N.Takes X W) (ha : PA X (a :: es) (PA_ (FX X cv fn xs) W fs)) (hdb : (x == ("__debug__" : Str)) = false)
    (he : starEach (a :: es) X.env = (false, eval a X.env) :: starEach es X.env) (hpl : (backTo pos (starEach es X.env)).any (·.1) = false) :
    PE X (.Call (.Name x p) (a :: es) [] pos) (PE_ (FX X cv fn xs) W (dCall g fs dds)) := by
  refine ⟨fun pins s σ H Q I hq => ?_⟩
  obtain ⟨m, e, h, rh, re, p⟩ := hq
  refine wpAny_Call_Name_kw (ld_glob I hg hm ?_ hdb)
  refine PySem.W.callWith_K (h₀ := X.base) I.ok.mod.kin hk ?_ he hpl
  have p' : PA_ (FX X cv fn xs) W fs σ H fun vs H1 => spT (FX X cv fn xs) ps.length g (vs ++ dvs) H1 Q (WE W σ) := by
    cases q : fs e h with
    | ok ds h' =>
      refine ⟨m, e, h, rh, re, ?_⟩
      rw [q]
      have p2 : PO (FX X cv fn xs) W (rdR (FX X cv fn xs)) σ m h H (g (ds ++ dds) h') Q := by
        have p3 := p
        unfold dCall at p3
        rw [q] at p3
        exact p3
      intro m1 H1 vs g1 rh1 r1
      exact call_rd ps.length hdd (by rw [← r1.length, hlen _ _ _ _ q]; exact hn) rh1 r1 (p2.base g1)
    | exc x h' =>
      refine ⟨m, e, h, rh, re, ?_⟩
      rw [q]
      have p3 := p
      unfold dCall at p3
      rw [q] at p3
      exact p3
    | stuck =>
      have p3 := p
      unfold dCall at p3
      rw [q] at p3
      exact p3.elim
  refine thn (ha.run pos pins s σ H _ I p') fun us s1 ⟨vs, H1, I1, r, q⟩ => ⟨I1.kIn, ?_⟩
  exact run_own F hr hb hd (L2N.passAt tk σ) I1 r q
theorem s_call0 (F : FnOk X.prog X.w X.K X.mg X.base (L2N.CX X.prog X.w) k f fd ps (spT (FX X cv fn xs) ps.length g)) (hr : Room k X.A) (hg : Gl X x) (hm : X.mg x = some (.ref f)) (hk : PySem.W.keepIn X.K (.ref f) = true) (hb : Binds X.K fd ps ws) (hd : Vals dvs ws)
    (hdd : ∀ m N H, RDs X.K m N H dds dvs) (hn : dvs.length = ps.length) (tk : L2N.Takes X W) (hdb : (x == ("__debug__" : Str)) = false) :
    PE X (.Call (.Name x p) [] [] pos) (PE_ (FX X cv fn xs) W (dCall g aN dds)) := by
  refine ⟨fun pins s σ H Q I hq => ?_⟩
  obtain ⟨m, e, h, rh, re, p⟩ := hq
  refine wpAny_Call_Name_kw (ld_glob I hg hm ?_ hdb)
  refine PySem.W.callWith_K0 I.kIn hk ?_
  refine run_own (us := []) (vs := []) F hr hb hd (L2N.passAt tk σ) I .nil ?_
  exact call_rd (ds := []) ps.length hdd (by rw [List.length_nil, Nat.zero_add]; exact hn) rh .nil p
end
def WalkD (T : Fx) (m0 : Nat → Addr) (N0 : Nat) (H0 : Hp) (sq : Sq) (J : It) : Prop := ∀ (m : Nat → Addr) (h : Hh) (H : Hp), RH T m h H → (∀ n, n < N0 → m n = m0 n) → N0 ≤ h.length → TK H0 H → srcOk sq.src h →
  (∀ i, i < sq.items.length → J.go i H) ∧ J.stop sq.items.length H ∧ ∀ i x H', i < sq.items.length → J.yld i H x H' → ∃ d, sq.items[i]? = some d ∧ Ge m h H m h H' ∧ RH T m h H' ∧ RD T.K m h.length H' d x
def PI_ (T : Fx) (W : WX) (f : ID) : TI := fun σ H R => ∃ m e h, RH T m h H ∧ RE T m h.length H e σ ∧ PO T W (WalkD T) σ m h H (f e h) R
theorem piImp {tg it : Expr} {t t' : TI} (h : PI X tg it t) (w : ∀ σ H Q, t' σ H Q → t σ H Q) : PI X tg it t' := ⟨fun pins s σ H Q I q => h.run pins s σ H Q I (w σ H Q q)⟩
theorem walk_l {T : Fx} {m : Nat → Addr} {h : Hh} {H : Hp} {n : Nat} {ds : List D} (rh : RH T m h H) (e : lstAt h n = some ds) : WalkD T m h.length H ⟨ds, [(n, ds)]⟩ (Itl T.K (m n)) := by
  intro m1 h1 H1 rh1 em hN tk ok
  have e1 : lstAt h1 n = some ds := ok (n, ds) (by simp)
  obtain ⟨hn, _⟩ := rh.lst e
  obtain ⟨_, vs, sq, q⟩ := rh1.lst e1
  rw [em n hn] at sq
  have w := walk_list (K := T.K) (a := m n) (xs := vs)
  have hl := q.length
  refine ⟨fun i hi => w.goes i H1 (by rw [← hl]; exact hi) sq, by rw [hl]; exact w.stops H1 sq, fun i x H' hi y => ?_⟩
  obtain ⟨rfl, hx⟩ := w.yields i H1 x H' (by rw [← hl]; exact hi) sq y
  obtain ⟨d, e2, r⟩ := q.getV hx
  exact ⟨d, e2, Ge.refl, rh1, r⟩
theorem walk_t {T : Fx} {m : Nat → Addr} {h : Hh} {H : Hp} {a : Addr} {ds : List D} {vs : List V} (sq : SqT T.K H a vs) (q : RDs T.K m h.length H ds vs) : WalkD T m h.length H ⟨ds, []⟩ (Itt T.K a) := by
  intro m1 h1 H1 rh1 em hN tk ok
  have sq1 := tk.seq sq
  have q1 := q.mono tk em hN
  have w := walk_tup (K := T.K) (a := a) (xs := vs)
  have hl := q.length
  refine ⟨fun i hi => w.goes i H1 (by rw [← hl]; exact hi) sq1, by rw [hl]; exact w.stops H1 sq1, fun i x H' hi y => ?_⟩
  obtain ⟨rfl, hx⟩ := w.yields i H1 x H' (by rw [← hl]; exact hi) sq1 y
  obtain ⟨d, e2, r⟩ := q1.getV hx
  exact ⟨d, e2, Ge.refl, rh1, r⟩
theorem walk_s {T : Fx} {m : Nat → Addr} {N : Nat} {H : Hp} {z : Str} : WalkD T m N H ⟨z.cps.toList.map fun c => D.str ⟨#[c]⟩, []⟩ (Its z) := by
  intro m1 h1 H1 rh1 em hN tk ok
  have hl : (z.cps.toList.map fun c => D.str ⟨#[c]⟩).length = z.cps.size := by rw [List.length_map, Array.length_toList]
  refine ⟨fun i hi => by rw [hl] at hi; exact hi, by rw [hl]; exact Nat.le_refl _, fun i x H' hi y => ?_⟩
  obtain ⟨rfl, c, hc, rfl⟩ := y
  exact ⟨.str ⟨#[c]⟩, by rw [List.getElem?_map, Array.getElem?_toList, hc]; rfl, Ge.refl, rh1, .str _⟩
theorem walk_r {T : Fx} {m : Nat → Addr} {N : Nat} {H : Hp} {lo : Int} {n : Nat} : WalkD T m N H ⟨rngD lo n, []⟩ (Itr lo n) := by
  intro m1 h1 H1 rh1 em hN tk ok
  have hl : (rngD lo n).length = n := by unfold rngD; rw [List.length_map, List.length_range]
  refine ⟨fun i hi => by rw [hl] at hi; exact hi, by rw [hl]; exact Nat.le_refl _, fun i x H' hi y => ?_⟩
  obtain ⟨rfl, rfl⟩ := y
  rw [hl] at hi
  exact ⟨.int (lo + (i : Int)), by unfold rngD; rw [List.getElem?_map, List.getElem?_range hi]; rfl, Ge.refl, rh1, .int _⟩
theorem walk_e {T : Fx} {m : Nat → Addr} {h : Hh} {H : Hp} {n : Nat} {ds : List D} (rh : RH T m h H) (e : lstAt h n = some ds) : WalkD T m h.length H ⟨ds.zipIdx.map fun p => .tup [.int (p.2 : Nat), p.1], [(n, ds)]⟩ (Ite T.K (m n)) := by
  intro m1 h1 H1 rh1 em hN tk ok
  have e1 : lstAt h1 n = some ds := ok (n, ds) (by simp)
  obtain ⟨hn, _⟩ := rh.lst e
  obtain ⟨_, vs, sq, q⟩ := rh1.lst e1
  rw [em n hn] at sq
  have w := walk_enum (K := T.K) (a := m n) (xs := vs)
  have hl : (ds.zipIdx.map fun p => D.tup [.int (p.2 : Nat), p.1]).length = vs.length := by rw [List.length_map, List.length_zipIdx, q.length]
  refine ⟨fun i hi => w.goes i H1 (by rw [← hl]; exact hi) sq, by show (Ite T.K (m n)).stop (ds.zipIdx.map _).length H1; rw [hl]; exact w.stops H1 sq, fun i x H' hi y => ?_⟩
  obtain ⟨t, x1, x2, rfl, nt, rfl, e3, e4⟩ := w.yields i H1 x H' (by rw [← hl]; exact hi) sq y
  cases e3
  obtain ⟨d, e2, r⟩ := q.getV e4
  obtain ⟨g, rh'⟩ := rh1.lay (u := .tup [.int (i : Nat), x2]) nt
  refine ⟨.tup [.int (i : Nat), d], ?_, g, rh', .tup (.inl (.inl upd_same)) (.cons (.int _) (.cons (g.rd r) .nil))⟩
  rw [List.getElem?_map, List.getElem?_zipIdx, e2]
  simp
theorem walk_z {T : Fx} {m : Nat → Addr} {h : Hh} {H : Hp} {n k : Nat} {ds es : List D} (rh : RH T m h H) (e : lstAt h n = some ds) (e' : lstAt h k = some es) :
    WalkD T m h.length H ⟨List.zipWith (fun x y => D.tup [x, y]) ds es, [(n, ds), (k, es)]⟩ (Itz T.K (m n) (m k)) := by
  intro m1 h1 H1 rh1 em hN tk ok
  have e1 : lstAt h1 n = some ds := ok (n, ds) (by simp)
  have e1' : lstAt h1 k = some es := ok (k, es) (by simp)
  obtain ⟨hn, _⟩ := rh.lst e
  obtain ⟨hk, _⟩ := rh.lst e'
  obtain ⟨_, vs, sq, q⟩ := rh1.lst e1
  obtain ⟨_, ws, sq', q'⟩ := rh1.lst e1'
  rw [em n hn] at sq
  rw [em k hk] at sq'
  have w := walk_zip (K := T.K) (a := m n) (b := m k) (xs := vs) (ys := ws) rfl
  have hl : (List.zipWith (fun x y => D.tup [x, y]) ds es).length = min vs.length ws.length := by rw [List.length_zipWith, q.length, q'.length]
  refine ⟨fun i hi => w.goes i H1 (by rw [← hl]; exact hi) ⟨sq, sq'⟩, by show (Itz T.K (m n) (m k)).stop (List.zipWith _ ds es).length H1; rw [hl]; exact w.stops H1 ⟨sq, sq'⟩, fun i x H' hi y => ?_⟩
  obtain ⟨t, x1, x2, rfl, nt, rfl, e3, e4⟩ := w.yields i H1 x H' (by rw [← hl]; exact hi) ⟨sq, sq'⟩ y
  obtain ⟨d, e2, r⟩ := q.getV e3
  obtain ⟨d', e2', r'⟩ := q'.getV e4
  obtain ⟨g, rh'⟩ := rh1.lay (u := .tup [x1, x2]) nt
  refine ⟨.tup [d, d'], ?_, g, rh', .tup (.inl (.inl upd_same)) (.cons (g.rd r) (.cons (g.rd r') .nil))⟩
  rw [List.getElem?_zipWith, e2, e2']
theorem walk_v {T : Fx} {m : Nat → Addr} {h : Hh} {H : Hp} {n : Nat} {ds : List D} (rh : RH T m h H) (e : lstAt h n = some ds) : WalkD T m h.length H ⟨ds.reverse, [(n, ds)]⟩ (Itv T.K (m n) ds.length) := by
  intro m1 h1 H1 rh1 em hN tk ok
  have e1 : lstAt h1 n = some ds := ok (n, ds) (by simp)
  obtain ⟨hn, _⟩ := rh.lst e
  obtain ⟨_, vs, sq, q⟩ := rh1.lst e1
  rw [em n hn] at sq
  have w := walk_rev (K := T.K) (a := m n) (xs := vs)
  rw [← q.length] at w
  refine ⟨fun i hi => w.goes i H1 (by rw [List.length_reverse] at hi; exact hi) sq, by rw [List.length_reverse]; exact w.stops H1 sq, fun i x H' hi y => ?_⟩
  rw [List.length_reverse] at hi
  obtain ⟨rfl, hx⟩ := w.yields i H1 x H' hi sq y
  obtain ⟨d, e2, r⟩ := q.getV hx
  exact ⟨d, by rw [List.getElem?_reverse hi]; exact e2, Ge.refl, rh1, r⟩
theorem pi_rng {X : Cx} {tg l : Expr} {tl : TE} (hl : PE X l tl) : PI X tg l (fun σ H R => tl σ H fun x H1 => ∃ a lo hi, x = V.ref a ∧ H1 a = some (.rng lo hi) ∧ (-(2 ^ 62) ≤ lo ∧ lo < 2 ^ 62 ∧ -(2 ^ 62) ≤ hi ∧ hi < 2 ^ 62) ∧ R (Itr lo (hi - lo).toNat) H1) := by
  refine ⟨fun pins s σ H R I h => ?_⟩
  refine thn (hl.run pins s σ H _ I h) fun v s1 ⟨x, H1, I1, r1, q1⟩ => ?_
  obtain ⟨a, lo, hi, e, ha, ⟨h1, h2, h3, h4⟩, q⟩ := q1
  subst e
  cases r1
  obtain ⟨t1, t2, t3, ho⟩ := I1.hok a _ ha
  refine wpAny_pyIter_range (show IsRange s1.heap a lo hi 1 t1 t2 t3 from ho) (small_one h1 h2 h3 h4) ?_
  refine ⟨s1.heap.objs.size, [s1.heap.objs.size], _, _, H1, rfl, I1.kept (t' := s1.toks) fun b o e => Heap.get?_push_of_some _ e, turn_range _ lo (hi - lo).toNat, ?_, fun b hb => ?_, q⟩
  · have e1 : lo + ((0 : Nat) : Int) * 1 = lo := by simp
    have e2 : (((hi - lo).toNat : Nat) : Int) - ((0 : Nat) : Int) = Builtin.Range.rangeSize lo hi 1 := by rw [rangeSize_one]; split <;> omega
    show IsRangeIter _ _ (lo + ((0 : Nat) : Int) * 1) ((((hi - lo).toNat : Nat) : Int) - ((0 : Nat) : Int)) 1
    rw [e1, e2]
    exact Heap.get?_push_size _ rfl
  · have e : b = s1.heap.objs.size := by simpa using hb
    subst e
    exact I1.fpOk (Nat.le_refl _) (I1.hok.fresh (Nat.le_refl _))
theorem i_seq {tg : Expr} (ha : PE X a (PE_ (FX X cv fn xs) W fa)) : PI X tg a (PI_ (FX X cv fn xs) W (iSeq fa)) := by
  refine ⟨fun pins s σ H R I hq => ?_⟩
  obtain ⟨m, e, h, rh, re, p⟩ := hq
  have p0 := p
  unfold iSeq at p0
  cases q : fa e h with
  | stuck => rw [q] at p0; exact p0.elim
  | exc x h1 =>
    refine (pi_list (tg := tg) ha).run pins s σ H R I ⟨m, e, h, rh, re, ?_⟩
    rw [q] at p0 ⊢
    exact p0
  | ok d h1 =>
    rw [q] at p0
    cases d with
    | tup ds =>
      refine (pi_tup (tg := tg) ha).run pins s σ H R I ⟨m, e, h, rh, re, ?_⟩
      rw [q]
      intro m1 H1 v g1 rh1 r
      cases r with
      | tup sq r => exact ⟨_, rfl, ⟨_, sq⟩, p0 m1 H1 _ g1 rh1 (walk_t sq r)⟩
    | str z =>
      refine (pi_str (tg := tg) ha).run pins s σ H R I ⟨m, e, h, rh, re, ?_⟩
      rw [q]
      intro m1 H1 v g1 rh1 r
      cases r
      exact ⟨z, rfl, p0 m1 H1 _ g1 rh1 walk_s⟩
    | ref n =>
      refine (pi_list (tg := tg) ha).run pins s σ H R I ⟨m, e, h, rh, re, ?_⟩
      rw [q]
      intro m1 H1 v g1 rh1 r
      cases r
      cases q2 : lstAt h1 n with
      | none =>
        have p1 : PO (FX X cv fn xs) W (WalkD (FX X cv fn xs)) σ m h H (match lstAt h1 n with | some ds => Mn.R.ok (⟨ds, [(n, ds)]⟩ : Sq) h1 | none => .stuck) R := p0
        rw [q2] at p1
        exact p1.elim
      | some ds =>
        have p1 : PO (FX X cv fn xs) W (WalkD (FX X cv fn xs)) σ m h H (match lstAt h1 n with | some ds => Mn.R.ok (⟨ds, [(n, ds)]⟩ : Sq) h1 | none => .stuck) R := p0
        rw [q2] at p1
        obtain ⟨_, vs, sq, _⟩ := rh1.lst q2
        exact ⟨_, rfl, ⟨vs, sq⟩, p1 m1 H1 _ g1 rh1 (walk_l rh1 q2)⟩
    | rg lo hi =>
      refine (pi_rng (tg := tg) ha).run pins s σ H R I ⟨m, e, h, rh, re, ?_⟩
      rw [q]
      intro m1 H1 v g1 rh1 r
      cases r with
      | rg hr =>
        change PO (FX X cv fn xs) W (WalkD (FX X cv fn xs)) σ m h H (rng lo hi h1) R at p0
        unfold rng at p0
        split at p0
        · rename_i hz
          exact ⟨_, _, _, rfl, hr, hz, p0 m1 H1 _ g1 rh1 walk_r⟩
        · exact p0.elim
    | non => exact p0.elim
    | bl _ => exact p0.elim
    | int _ => exact p0.elim
end
end Mn
namespace PySem
open Sem (wp)
open AutoSeq1 (wpAny_loadPart')
theorem mn_meets_enumT (l : Addr) (items : Array Value) (n : Nat) (dct : Option Addr) (sl : Array (Option Value)) :
    Meets (Builtin.«enumerate.__new__» ⟨[.type "enumerate", .ref l], []⟩) (fun _ R s => s.heap.get? l = some { cls := .type "tuple", dict := dct, data := .seq items n, slots := sl } ∧
      R (.ok (.ret (.ref (s.heap.push { cls := .type "tuple_iterator", data := .fields #[.ref l, .int 0 0] }).objs.size)))
        { s with heap := (s.heap.push { cls := .type "tuple_iterator", data := .fields #[.ref l, .int 0 0] }).push { cls := .type "enumerate", data := .fields #[.none, .bool false, .ref s.heap.objs.size, rawInt 0, .none, .none] } }) :=
  .of_wp fun prog w A R s h => by
    obtain ⟨hp, g, d, tk, os⟩ := s; obtain ⟨hl, h⟩ := h
    have hsub := sub_enumerate
    have hL : Heap.IsTuple (Shared.heap ⟨hp, g, d, tk, os⟩) l items := ⟨_, hl, rfl, n, rfl⟩
    wp_walk using wpAny_loadPart' hl
    refine wpAny_stack_any fun st => wpAny_pure ?_
    split
    · rename_i c _ _ _ _ _
      cases (c == Value.type "enumerate")
      · wp_walk using wpAny_loadPart' hl, wpAny_pyIter_tuple hL
        exact ⟨_, rfl, h⟩
      · wp_walk using wpAny_loadPart' hl, wpAny_pyIter_tuple hL
        exact ⟨_, rfl, h⟩
    · wp_walk using wpAny_loadPart' hl, wpAny_pyIter_tuple hL
      exact ⟨_, rfl, h⟩
section
variable {prog : Program} {w : World} {A : Around} {E : Value → Shared → Prop} {s : Shared}
theorem mn_call_enumT {l : Addr} {items : Array Value} {Q : Value → Shared → Prop} (hL : s.heap.IsTuple l items)
    (h : ∀ h', IsEnum h' (s.heap.objs.size + 1) s.heap.objs.size 0 .none → h'.IsTupleIter s.heap.objs.size l 0 → h'.objs.size = s.heap.objs.size + 2 →
      (∀ b o, s.heap.get? b = some o → h'.get? b = some o) → Q (.ref (s.heap.objs.size + 1)) { s with heap := h' }) :
    wpAny (model prog w) A (call (.type "enumerate") [.ref l]) Q E s := by
  obtain ⟨⟨c, dct, dt, sl⟩, hl, hc, n, hd⟩ := hL
  replace hc : c = .type "tuple" := hc
  replace hd : dt = .seq items n := hd
  subst hc hd
  refine callType_new F.called_enumerate (by decide) (F.typeCall_enumerate_1 _) (F.newCall_enumerate_1 _) (fun obj => F.args_object_init_2 obj _) F.entry_enumerate_new
    (mn_meets_enumT l items n dct sl) ⟨hl, ?_⟩
  have hz : (s.heap.push { cls := .type "tuple_iterator", data := .fields #[.ref l, .int 0 0] }).objs.size = s.heap.objs.size + 1 := Heap.size_push ..
  show _ ∧ _
  rw [hz]
  have he : IsEnum ((s.heap.push { cls := .type "tuple_iterator", data := .fields #[.ref l, .int 0 0] }).push
      { cls := .type "enumerate", data := .fields #[.none, .bool false, .ref s.heap.objs.size, rawInt 0, .none, .none] }) (s.heap.objs.size + 1) s.heap.objs.size 0 .none := by
    have := Heap.get?_push_size (s.heap.push { cls := .type "tuple_iterator", data := .fields #[.ref l, .int 0 0] })
      (o := { cls := .type "enumerate", data := .fields #[.none, .bool false, .ref s.heap.objs.size, rawInt 0, .none, .none] }) rfl
    rw [hz] at this; exact this
  refine ⟨⟨_, he, rfl⟩, h _ he ⟨_, Heap.get?_push_of_some _ (Heap.get?_push_size _ rfl), rfl, rfl⟩ (by rw [Heap.size_push, hz]) fun b o x => Heap.get?_push_of_some _ (Heap.get?_push_of_some _ x)⟩
end
end PySem
namespace Mn
open PySem PySem.Spec PyProof.Rows L2
def IteT (K : PySem.W.Frag) (a : Addr) : It :=
  ⟨fun i H => ∃ (xs : List V) (x : V), SqT K H a xs ∧ xs[i]? = some x, fun i H v H' => ∃ T x, v = .ref T ∧ H T = none ∧ H' = upd H T (.tup [.int (i : Nat), x]) ∧ ∀ xs, SqT K H a xs → xs[i]? = some x, fun i H => ∃ xs : List V, SqT K H a xs ∧ xs.length ≤ i⟩
theorem turn_enumT {P : Program} {w : World} {K : PySem.W.Frag} {elts : List Expr} {kk : Nat} {tpos : Pos} (a e it : Addr) :
    Turn P w K (.Tuple elts kk tpos) (IteT K a) [e, it] e (fun i h => (∃ old, IsEnum h e it ((i : Nat) : Int) old) ∧ h.IsTupleIter it a i ∧ e ≠ it) where
  mem := by simp
  obj := fun i h st b hb => by
    obtain ⟨⟨old, he⟩, ⟨o, ho, hc, hd⟩, _⟩ := st
    rcases (by simpa using hb : b = e ∨ b = it) with z | z
    · rw [z]; exact ⟨_, he, fun v q => nomatch q⟩
    · rw [z]; exact ⟨o, ho, fun v q => by rw [hd] at q; cases q⟩
  keep := fun i h h' st k => let ⟨⟨old, he⟩, hi, hne⟩ := st; ⟨⟨old, k e (by simp) _ he⟩, hi.at fun o q => k it (by simp) o q, hne⟩
  item := by
    intro X hP hw hK hc i pins s σ H E I hf st hg
    subst hP hw hK
    obtain ⟨⟨old, he⟩, hit, hne⟩ := st
    obtain ⟨xs, x, hq, hx⟩ := hg
    obtain ⟨its, rv, p, hz⟩ := I.tuple hq
    obtain ⟨u, hu, ru⟩ := rv.get hx
    have hT : s.heap.IsTuple a its.toArray := p
    have hai : a ≠ it := fun z => by
      obtain ⟨o1, g1, c1, _⟩ := hT
      obtain ⟨o2, g2, c2, _⟩ := hit
      rw [z, g2] at g1
      cases g1
      exact absurd (Value.type.inj (c1.symm.trans c2)) (by decide)
    have hae : e ≠ a := fun z => by
      obtain ⟨o1, g1, c1, _⟩ := hT
      rw [← z, he] at g1
      cases g1
      exact absurd (Value.type.inj (show Value.type "enumerate" = .type "tuple" from c1)) (by decide)
    have hel : e < s.heap.objs.size := Heap.lt_size he
    have hil : it < s.heap.objs.size := by obtain ⟨_, q, _⟩ := hit; exact Heap.lt_size q
    have hin : i < its.toArray.size := (Array.getElem?_eq_some_iff.mp (show its.toArray[i]? = some u by simpa using hu)).1
    refine wpAny_pyNext_enum_itemD (Draws.tuple (A := X.A.in1) (show X.A.in1.handled = none from I.ok.hd hc) it a hai its.toArray) he ⟨hit, hT⟩ hin hne (by simp [hne, hae]) fun y h' tk hy ho hst' hTp hsz hk => ?_
    have ey : y = u := by
      have hu' : its.toArray[i]? = some u := by simpa using hu
      rw [hy] at hu'
      exact Option.some.inj hu'
    subst ey
    obtain ⟨hit', hT'⟩ := hst'
    refine ⟨_, rfl, wpAny_letOwnedTupleGo_enum (s := { s with heap := h', toks := tk + 1 }) ho fun h'' he' sb => ?_⟩
    have hT2 : h''.get? s.heap.objs.size = some { cls := .type "tuple", data := .seq #[.int i tk, y] } := (sb.2 _ (Nat.ne_of_gt hel)).trans hTp
    have new : ObjOk X.prog X.w (upd H s.heap.objs.size (.tup [.int (i : Nat), x])) h'' s.heap.objs.size (.tup [.int (i : Nat), x]) :=
      ⟨by show 2 ≤ sizeLine; decide, [.int i tk, y], .cons ⟨_, rfl⟩ (.cons ru .nil), ⟨_, hT2, rfl, _, rfl⟩⟩
    have I1 : Inv X pins σ (upd H s.heap.objs.size (.tup [.int (i : Nat), x])) { s with heap := h'', toks := tk + 1 } :=
      I.turnedNew (ch := [e, it]) (fun b ob hb q => (sb.2 b (fun z => hb (by simp [z]))).trans (hk b ob (fun z => hb (by simp [z])) (fun z => hb (by simp [z])) q)) hf (Nat.le_refl _) new
    refine ⟨.ref s.heap.objs.size, _, I1, rfl, ⟨_, x, rfl, I.hok.fresh (Nat.le_refl _), rfl, fun ys hy => by rw [I.tuple_inj hy hq]; exact hx⟩, ⟨⟨y, ?_⟩, hit'.at fun o q => (sb.2 it (Ne.symm hne)).trans q, hne⟩, fun b hb => ?_⟩
    · have e1 : ((i + 1 : Nat) : Int) = (i : Int) + 1 := by omega
      rw [e1]; exact he'
    · have hb' : b < s.heap.objs.size := by
        rcases (by simpa using hb : b = e ∨ b = it) with z | z
        · rw [z]; exact hel
        · rw [z]; exact hil
      rw [upd_ne (Nat.ne_of_lt hb')]
      exact (hf b hb).1
  done := by
    intro X hP hw hK hc i pins s σ H E I hf st hg
    subst hP hw hK
    obtain ⟨⟨old, he⟩, hit, hne⟩ := st
    obtain ⟨xs, hq, hx⟩ := hg
    obtain ⟨its, rv, p, hz⟩ := I.tuple hq
    obtain ⟨f0, f1, f2, f3, f4, f5⟩ := hf it (by simp)
    have hl := rv.length
    have hT : s.heap.IsTuple a its.toArray := p
    have D : Draws X.prog X.w X.A.in1 it [it, a] 0 (fun _ _ => True) (fun _ h => h.IsTupleIter it a i ∧ h.IsTuple a its.toArray) :=
      { live := fun _ _ st => let ⟨o, ho, _⟩ := st.1; ⟨o, ho⟩
        frame := fun _ _ _ st hk => ⟨st.1.at fun o e => hk it (by simp) o e, st.2.at fun o e => hk a (by simp) o e⟩
        item := fun i s Q E hi => absurd hi (Nat.not_lt_zero _)
        done := fun s Q E st hE => wpAny_nextOf_tuple_end (show X.A.in1.handled = none from I.ok.hd hc) st.1 st.2 (by simp; omega) hE }
    exact wpAny_pyNext_enum_endD D he ⟨hit, hT⟩ fun h' eb => ⟨rfl, I.turned (t' := s.toks) (fun b o hb q => eb b o hb q) f0 f1 f3 f4 f5⟩
  self := fun A i s Q E st h => let ⟨⟨_, he⟩, _⟩ := st; wpAny_pyIter_enum he h
def iEnumA (K : PySem.W.Frag) (ta : TA) : TI := fun σ H R => ta σ H fun vs H1 => ∃ a xs, vs = [.ref a] ∧ ((SqL K H1 a xs ∧ R (Ite K a) H1) ∨ (SqT K H1 a xs ∧ R (IteT K a) H1))
theorem pi_enumA {X : Cx} {e : Expr} {ta : TA} {p pos tpos : Pos} {elts : List Expr} {kk : Nat} (hg : Gl X "enumerate") (hm : X.mg "enumerate" = none) (ha : PA X [e] ta) (hs : starEach [e] X.env = [(false, eval e X.env)]) :
    PI X (.Tuple elts kk tpos) (.Call (.Name "enumerate" p) [e] [] pos) (iEnumA X.K ta) := by
  refine ⟨fun pins s σ H R I h => ?_⟩
  refine Call_ (ld_blt I hg hm boot_enumerate (PyProof.Rows.callWith_type1 (thn (ha.run pos pins s σ H _ I h) fun us s1 ⟨vs, H1, I1, r1, q1⟩ => ?_) hs rfl))
  obtain ⟨a, xs, ex, q1⟩ := q1
  subst ex
  cases r1 with
  | cons r rr =>
    cases rr
    cases r
    have hfp : ∀ b, b ∈ [s1.heap.objs.size + 1, s1.heap.objs.size] → FpOk X pins H1 b := fun b hb => by
      have hle : s1.heap.objs.size ≤ b := by
        rcases (by simpa using hb : b = s1.heap.objs.size + 1 ∨ b = s1.heap.objs.size) with z | z
        · rw [z]; exact Nat.le_add_right _ _
        · rw [z]; exact Nat.le_refl _
      exact I1.fpOk hle (I1.hok.fresh hle)
    rcases q1 with ⟨hq, q⟩ | ⟨hq, q⟩
    · obtain ⟨its, rv, p', hz⟩ := I1.list hq
      refine call_enumerate_list p'.isList fun h' he hit hsz hk => wpAny_pyIter_enum he ?_
      have I2 : Inv X pins σ H1 { s1 with heap := h' } := I1.kept (t' := s1.toks) hk
      exact ⟨s1.heap.objs.size + 1, [s1.heap.objs.size + 1, s1.heap.objs.size], _, _, H1, rfl, I2, turn_enum a (s1.heap.objs.size + 1) s1.heap.objs.size, ⟨⟨.none, he⟩, hit, Nat.succ_ne_self _⟩, hfp, q⟩
    · obtain ⟨its, rv, p', hz⟩ := I1.tuple hq
      refine mn_call_enumT (show s1.heap.IsTuple a its.toArray from p') fun h' he hit hsz hk => wpAny_pyIter_enum he ?_
      have I2 : Inv X pins σ H1 { s1 with heap := h' } := I1.kept (t' := s1.toks) hk
      exact ⟨s1.heap.objs.size + 1, [s1.heap.objs.size + 1, s1.heap.objs.size], _, _, H1, rfl, I2, turn_enumT a (s1.heap.objs.size + 1) s1.heap.objs.size, ⟨⟨.none, he⟩, hit, Nat.succ_ne_self _⟩, hfp, q⟩
theorem walk_eT {T : Fx} {m : Nat → Addr} {h : Hh} {H : Hp} {a : Addr} {ds : List D} {vs : List V} (sq : SqT T.K H a vs) (q : RDs T.K m h.length H ds vs) : WalkD T m h.length H ⟨ds.zipIdx.map fun p => .tup [.int (p.2 : Nat), p.1], []⟩ (IteT T.K a) := by
  intro m1 h1 H1 rh1 em hN tk ok
  have sq1 := tk.seq sq
  have q1 := q.mono tk em hN
  have hl : (ds.zipIdx.map fun p => D.tup [.int (p.2 : Nat), p.1]).length = vs.length := by rw [List.length_map, List.length_zipIdx, q.length]
  refine ⟨fun i hi => ⟨vs, vs[i]'(by rw [← hl]; exact hi), sq1, by rw [List.getElem?_eq_getElem]⟩, ⟨vs, sq1, by rw [hl]; exact Nat.le_refl _⟩, fun i x H' hi y => ?_⟩
  obtain ⟨t, x2, rfl, nt, rfl, e4⟩ := y
  obtain ⟨d, e2, r⟩ := q1.getV (e4 vs sq1)
  obtain ⟨g, rh'⟩ := rh1.lay (u := .tup [.int (i : Nat), x2]) nt
  refine ⟨.tup [.int (i : Nat), d], ?_, g, rh', .tup (.inl (.inl upd_same)) (.cons (.int _) (.cons (g.rd r) .nil))⟩
  rw [List.getElem?_map, List.getElem?_zipIdx, e2]
  simp
theorem walk_zT {T : Fx} {m : Nat → Addr} {h : Hh} {H : Hp} {a b : Addr} {ds es : List D} {vs ws : List V} (sq : SqT T.K H a vs) (sq' : SqT T.K H b ws) (q : RDs T.K m h.length H ds vs) (q' : RDs T.K m h.length H es ws) : WalkD T m h.length H ⟨List.zipWith (fun x y => D.tup [x, y]) ds es, []⟩ (RZ.ItzT T.K a b) := by
  intro m1 h1 H1 rh1 em hN tk ok
  have sq1 := tk.seq sq
  have sq2 := tk.seq sq'
  have q1 := q.mono tk em hN
  have q2 := q'.mono tk em hN
  have hl : (List.zipWith (fun x y => D.tup [x, y]) ds es).length = min vs.length ws.length := by rw [List.length_zipWith, q.length, q'.length]
  refine ⟨fun i hi => ?_, ⟨vs, ws, sq1, sq2, by rw [hl]; omega⟩, fun i x H' hi y => ?_⟩
  · have z1 : i < vs.length := by have := hi; rw [hl] at this; omega
    have z2 : i < ws.length := by have := hi; rw [hl] at this; omega
    exact ⟨vs, ws, vs[i], ws[i], sq1, sq2, by rw [List.getElem?_eq_getElem], by rw [List.getElem?_eq_getElem]⟩
  obtain ⟨t, x1, x2, rfl, nt, rfl, e3, e4⟩ := y
  obtain ⟨d, e5, r⟩ := q1.getV (e3 vs sq1)
  obtain ⟨d', e6, r'⟩ := q2.getV (e4 ws sq2)
  obtain ⟨g, rh'⟩ := rh1.lay (u := .tup [x1, x2]) nt
  refine ⟨.tup [d, d'], ?_, g, rh', .tup (.inl (.inl upd_same)) (.cons (g.rd r) (.cons (g.rd r') .nil))⟩
  rw [List.getElem?_zipWith, e5, e6]
end Mn
namespace Mn
open PySem L2
section
variable {X : Cx} {cv : Nat → Value} {fn : Nat → Str} {xs : Xs} {W : WX} {pos : Pos} {a b c tg : Expr} {fa fb fc : ED} {t u : TD}
theorem pa1 {ta : TE} (ha : PE X a ta) (hs : starEach [a] X.env = [(false, eval a X.env)]) : PA X [a] (fun σ H Q => ta σ H fun x H1 => Q [x] H1) :=
  paImp (pa_cons ha pa_nil (by rw [hs]; rfl)) fun _ _ _ q => q
theorem pa2 {ta tb : TE} (ha : PE X a ta) (hb : PE X b tb) (hs : starEach [a, b] X.env = [(false, eval a X.env), (false, eval b X.env)]) (hs2 : starEach [b] X.env = [(false, eval b X.env)]) : PA X [a, b] (fun σ H Q => ta σ H fun x H1 => tb σ H1 fun y H2 => Q [x, y] H2) :=
  paImp (pa_cons ha (pa_cons hb pa_nil (by rw [hs2]; rfl)) (by rw [hs, hs2])) fun _ _ _ q => q
theorem rng1_imp {σ : L2.St} {H : Hp} {R : It → Hp → Prop} (q : PI_ (FX X cv fn xs) W (iRange1 fa) σ H R) : iRng1 (fun σ H Q => PE_ (FX X cv fn xs) W fa σ H fun x H1 => Q [x] H1) σ H R := by
  obtain ⟨m, e, h, rh, re, p⟩ := q
  refine ⟨m, e, h, rh, re, p.bind fun d h1 m1 H1 v g1 rh1 rx p1 => ?_⟩
  cases d with
  | int hi =>
    cases rx
    change PO (FX X cv fn xs) W (WalkD (FX X cv fn xs)) σ m1 h1 H1 (rng 0 hi h1) R at p1
    unfold rng at p1
    split at p1
    · rename_i hz
      refine ⟨_, rfl, hz.2.2.1, hz.2.2.2, ?_⟩
      have q := p1 m1 H1 _ Ge.refl rh1 walk_r
      rw [Int.sub_zero] at q
      exact q
    · exact p1.elim
  | _ => exact p1.elim
theorem i_range1 {p : Pos} (hg : Gl X "range") (hm : X.mg "range" = none) (ha : PE X a (PE_ (FX X cv fn xs) W fa)) (hs : starEach [a] X.env = [(false, eval a X.env)]) : PI X tg (.Call (.Name "range" p) [a] [] pos) (PI_ (FX X cv fn xs) W (iRange1 fa)) :=
  piImp (pi_range1 hg hm (pa1 ha hs) hs) fun σ H R q => rng1_imp q
theorem i_range2 {p : Pos} (hg : Gl X "range") (hm : X.mg "range" = none) (ha : PE X a (PE_ (FX X cv fn xs) W fa)) (hb : PE X b (PE_ (FX X cv fn xs) W fb)) (hs : starEach [a, b] X.env = [(false, eval a X.env), (false, eval b X.env)]) (hs2 : starEach [b] X.env = [(false, eval b X.env)]) :
    PI X tg (.Call (.Name "range" p) [a, b] [] pos) (PI_ (FX X cv fn xs) W (iRange2 fa fb)) := by
  refine piImp (pi_range2 hg hm (pa2 ha hb hs hs2) hs hs2) fun σ H R q => ?_
  obtain ⟨m, e, h, rh, re, p⟩ := q
  refine ⟨m, e, h, rh, re, p.bind fun d h1 m1 H1 v g1 rh1 rx p1 => ⟨m1, e, h1, rh1, g1.re re, p1.bind fun d2 h2 m2 H2 v2 g2 rh2 rx2 p2 => ?_⟩⟩
  cases d with
  | int lo =>
    cases d2 with
    | int hi =>
      cases rx
      cases rx2
      change PO (FX X cv fn xs) W (WalkD (FX X cv fn xs)) σ m2 h2 H2 (rng lo hi h2) R at p2
      unfold rng at p2
      split at p2
      · rename_i hz
        exact ⟨_, _, rfl, ⟨hz.1, hz.2.1, hz.2.2.1, hz.2.2.2⟩, p2 m2 H2 _ Ge.refl rh2 walk_r⟩
      · exact p2.elim
    | _ => exact p2.elim
  | _ => exact p2.elim
theorem i_enum {p tpos : Pos} {elts : List Expr} {kk : Nat} (hg : Gl X "enumerate") (hm : X.mg "enumerate" = none) (ha : PE X a (PE_ (FX X cv fn xs) W fa)) (hs : starEach [a] X.env = [(false, eval a X.env)]) : PI X (.Tuple elts kk tpos) (.Call (.Name "enumerate" p) [a] [] pos) (PI_ (FX X cv fn xs) W (iEnum fa)) := by
  refine piImp (pi_enumA hg hm (pa1 ha hs) hs) fun σ H R q => ?_
  obtain ⟨m, e, h, rh, re, p⟩ := q
  refine ⟨m, e, h, rh, re, p.bind fun d h1 m1 H1 v g1 rh1 rx p1 => ?_⟩
  cases d with
  | tup ds =>
    cases rx with
    | tup sq r => exact ⟨_, _, rfl, .inr ⟨sq, p1 m1 H1 _ Ge.refl rh1 (walk_eT sq r)⟩⟩
  | ref n =>
    cases rx
    change PO (FX X cv fn xs) W (WalkD (FX X cv fn xs)) σ m1 h1 H1 (match lstAt h1 n with | some ds => Mn.R.ok (⟨ds.zipIdx.map fun p => .tup [.int (p.2 : Nat), p.1], [(n, ds)]⟩ : Sq) h1 | none => .stuck) R at p1
    split at p1
    · rename_i q2
      obtain ⟨_, vs, sq, _⟩ := rh1.lst q2
      exact ⟨_, _, rfl, .inl ⟨sq, p1 m1 H1 _ Ge.refl rh1 (walk_e rh1 q2)⟩⟩
    · exact p1.elim
  | _ => exact p1.elim
theorem i_zip {p tpos : Pos} {elts : List Expr} {kk : Nat} (hg : Gl X "zip") (hm : X.mg "zip" = none) (ha : PE X a (PE_ (FX X cv fn xs) W fa)) (hb : PE X b (PE_ (FX X cv fn xs) W fb)) (hs : starEach [a, b] X.env = [(false, eval a X.env), (false, eval b X.env)]) (hs2 : starEach [b] X.env = [(false, eval b X.env)])
    (hpl : (backTo pos (starEach [b] X.env)).any (·.1) = false) : PI X (.Tuple elts kk tpos) (.Call (.Name "zip" p) [a, b] [] pos) (PI_ (FX X cv fn xs) W (iZip fa fb)) := by
  refine piImp (RZ.pi_zipA hg hm (pa2 ha hb hs hs2) (by rw [hs, hs2]) hpl) fun σ H R q => ?_
  obtain ⟨m, e, h, rh, re, p⟩ := q
  refine ⟨m, e, h, rh, re, p.bind fun d h1 m1 H1 v g1 rh1 rx p1 => ⟨m1, e, h1, rh1, g1.re re, p1.bind fun d2 h2 m2 H2 v2 g2 rh2 rx2 p2 => ?_⟩⟩
  cases d with
  | tup ds =>
    cases d2 with
    | tup es =>
      have rx := g2.rd rx
      cases rx with
      | tup sq r =>
        cases rx2 with
        | tup sq' r' => exact ⟨_, _, _, _, rfl, .inr ⟨sq, sq', p2 m2 H2 _ Ge.refl rh2 (walk_zT sq sq' r r')⟩⟩
    | _ => exact p2.elim
  | ref n =>
    cases d2 with
    | ref k =>
      have rx := g2.rd rx
      cases rx
      cases rx2
      change PO (FX X cv fn xs) W (WalkD (FX X cv fn xs)) σ m2 h2 H2 (match lstAt h2 n, lstAt h2 k with | some ds, some es => Mn.R.ok (⟨List.zipWith (fun x y => .tup [x, y]) ds es, [(n, ds), (k, es)]⟩ : Sq) h2 | _, _ => .stuck) R at p2
      split at p2
      · rename_i q1 q2
        obtain ⟨_, vs, sq, _⟩ := rh2.lst q1
        obtain ⟨_, ws, sq', _⟩ := rh2.lst q2
        exact ⟨_, _, _, _, rfl, .inl ⟨sq, sq', p2 m2 H2 _ Ge.refl rh2 (walk_z rh2 q1 q2)⟩⟩
      · exact p2.elim
    | _ => exact p2.elim
  | _ => exact p2.elim
theorem i_rev {p : Pos} (hg : Gl X "reversed") (hm : X.mg "reversed" = none) (ha : PE X a (PE_ (FX X cv fn xs) W fa)) (hs : starEach [a] X.env = [(false, eval a X.env)]) : PI X tg (.Call (.Name "reversed" p) [a] [] pos) (PI_ (FX X cv fn xs) W (iRev fa)) := by
  refine piImp (pi_reversed hg hm (pa1 ha hs) hs) fun σ H R q => ?_
  obtain ⟨m, e, h, rh, re, p⟩ := q
  refine ⟨m, e, h, rh, re, p.bind fun d h1 m1 H1 v g1 rh1 rx p1 => ?_⟩
  cases d with
  | ref n =>
    cases rx
    change PO (FX X cv fn xs) W (WalkD (FX X cv fn xs)) σ m1 h1 H1 (match lstAt h1 n with | some ds => Mn.R.ok (⟨ds.reverse, [(n, ds)]⟩ : Sq) h1 | none => .stuck) R at p1
    split at p1
    · rename_i q2
      obtain ⟨_, vs, sq, r⟩ := rh1.lst q2
      refine ⟨_, _, rfl, sq, ?_⟩
      rw [← r.length]
      exact p1 m1 H1 _ Ge.refl rh1 (walk_v rh1 q2)
    · exact p1.elim
  | _ => exact p1.elim
def But (is : List Nat) (σ σ' : L2.St) : Prop := σ'.length = σ.length ∧ ∀ j, j ∉ is → σ'[j]? = σ[j]?
def PG_ (T : Fx) (is : List Nat) (g : Tg) : TG := fun v σ H Q => ∃ m h d e e1, RH T m h H ∧ RE T m h.length H e σ ∧ RD T.K m h.length H d v ∧ g d e = some e1 ∧ ∀ σ', RE T m h.length H e1 σ' → But is σ σ' → Q σ' H
theorem pgImp {tg : Expr} {t t' : TG} (h : PG X tg t) (w : ∀ v σ H Q, t' v σ H Q → t v σ H Q) : PG X tg t' := ⟨fun pins s σ H v u Q I r q => h.run pins s σ H v u Q I r (w v σ H Q q)⟩
theorem g_n {i : Nat} {x : Str} (nx : Nx (FX X cv fn xs) i) (hN : X.N.Nodup) (hi : X.N[i]? = some x) (hx : Loc X.env.scope x) (hf : X.fn x = true ∨ X.env.scope.names.lookup x = some .local) : PG X (.Name x pos) (PG_ (FX X cv fn xs) [i] (gN i)) :=
  pgImp (pg_name hN hi hx hf) fun v σ H Q q => by
    obtain ⟨m, h, d, e, e1, rh, re, rd, eg, k⟩ := q
    cases eg
    exact k _ (re.set i nx rd) ⟨List.length_set .., fun j hj => List.getElem?_set_ne fun z => hj (by simp [z])⟩
def setAll (σ : L2.St) (ps : List (Nat × V)) : L2.St := ps.foldl (fun σ p => σ.set p.1 (some p.2)) σ
theorem setAll_but : ∀ {is : List Nat} {vs : List V} {σ : L2.St}, But is σ (setAll σ (is.zip vs))
  | [], _, _ => by rw [List.zip_nil_left]; exact ⟨rfl, fun _ _ => rfl⟩
  | i :: is, [], _ => by rw [List.zip_nil_right]; exact ⟨rfl, fun _ _ => rfl⟩
  | i :: is, v :: vs, σ => by
    rw [List.zip_cons_cons]
    obtain ⟨h1, h2⟩ := setAll_but (is := is) (vs := vs) (σ := σ.set i (some v))
    refine ⟨h1.trans (List.length_set ..), fun j hj => ?_⟩
    simp only [List.mem_cons, not_or] at hj
    exact (h2 j hj.2).trans (List.getElem?_set_ne (Ne.symm hj.1))
theorem wipe_at : ∀ (vs : List Nat) (σ : L2.St) (j : Nat), (L2.wipe σ vs)[j]? = if j ∈ vs ∧ j < σ.length then some none else σ[j]?
  | [], σ, j => by
    rw [if_neg (fun z => by simp at z)]
    rfl
  | v :: vs, σ, j => by
    show ((L2.wipe σ vs).set v none)[j]? = _
    by_cases hv : v = j
    · subst hv
      by_cases hl : v < σ.length
      · rw [List.getElem?_set_self (by rw [L2.wipe_length]; exact hl), if_pos ⟨by simp, hl⟩]
      · rw [List.getElem?_eq_none (by rw [List.length_set, L2.wipe_length]; omega), if_neg (fun z => hl z.2), List.getElem?_eq_none (by omega)]
    · rw [List.getElem?_set_ne hv, wipe_at vs σ j]
      have e : (j ∈ v :: vs ∧ j < σ.length) ↔ (j ∈ vs ∧ j < σ.length) := by simp [Ne.symm hv]
      simp only [e]
theorem wipe_but {is own : List Nat} {σ σ' : L2.St} (b : But is (L2.wipe σ own) σ') (hs : ∀ i ∈ is, i ∈ own) : L2.wipe σ' own = L2.wipe σ own := by
  have hl : σ'.length = σ.length := b.1.trans (L2.wipe_length _ _)
  apply List.ext_getElem?
  intro j
  rw [wipe_at, wipe_at, hl]
  by_cases hj : j ∈ own
  · by_cases h2 : j < σ.length
    · rw [if_pos ⟨hj, h2⟩, if_pos ⟨hj, h2⟩]
    · rw [if_neg (fun z => h2 z.2), if_neg (fun z => h2 z.2), List.getElem?_eq_none (by omega), List.getElem?_eq_none (by omega)]
  · rw [if_neg (fun z => hj z.1), if_neg (fun z => hj z.1), b.2 j (fun z => hj (hs j z)), wipe_at, if_neg (fun z => hj z.1)]
def gls (is : List Nat) : TGs := fun vs σ H Q => vs.length = is.length ∧ Q (setAll σ (is.zip vs)) H
def nmOk (X : Cx) : Expr → Nat → Prop
  | .Name x _, i => X.N[i]? = some x ∧ Loc X.env.scope x ∧ (X.fn x = true ∨ X.env.scope.names.lookup x = some .local)
  | _, _ => False
theorem pgs_names (hN : X.N.Nodup) : ∀ (es : List Expr) (is : List Nat), Paired (nmOk X) es is → PGs X es (gls is) ∧ (assignEach es X.env).length = is.length ∧ (assignEach es X.env).findIdx? (·.1) = none
  | [], _, .nil => ⟨⟨fun pins s σ H vs us Q I r q => (pgs_nil (X := X)).run pins s σ H vs us Q I r ⟨List.eq_nil_of_length_eq_zero q.1, by
      have e : vs = [] := List.eq_nil_of_length_eq_zero q.1
      subst e
      exact q.2⟩⟩, rfl, rfl⟩
  | .Name x p :: es, i :: is, .cons ho hr => by
    obtain ⟨h1, h2, h3⟩ := pgs_names hN es is hr
    have g := pg_name (pos := p) hN ho.1 ho.2.1 ho.2.2
    refine ⟨⟨fun pins s σ H vs us Q I r q => (pgs_cons g h1 (by rfl)).run pins s σ H vs us Q I r ?_⟩, ?_, ?_⟩
    · obtain ⟨hl, q⟩ := q
      cases vs with
      | nil => cases hl
      | cons v vs => exact ⟨v, vs, rfl, Nat.succ.inj hl, q⟩
    · show (assignEach es X.env).length + 1 = _
      rw [h2]
      rfl
    · show List.findIdx? (·.1) ((false, assign (.Name x p) X.env) :: assignEach es X.env) = none
      rw [List.findIdx?_cons, h3]
      rfl
theorem setAll_re {T : Fx} (hx : T.ex = none) {m : Nat → Addr} {N : Nat} {H : Hp} : ∀ {is : List Nat} {ds : List D} {vs : List V} {e : Ev} {σ : L2.St}, RE T m N H e σ → RDs T.K m N H ds vs → RE T m N H ((is.zip ds).foldl (fun e p => e.set p.1 (some p.2)) e) (setAll σ (is.zip vs))
  | [], _, _, _, _, re, _ => by rw [List.zip_nil_left, List.zip_nil_left]; exact re
  | i :: is, _, _, _, _, re, .nil => by rw [List.zip_nil_right, List.zip_nil_right]; exact re
  | i :: is, _, _, _, _, re, .cons r rs => by
    rw [List.zip_cons_cons, List.zip_cons_cons, List.foldl_cons]
    exact setAll_re hx (re.set i (fun j a h => by rw [hx] at h; cases h) r) rs
theorem g_t {es : List Expr} {is : List Nat} {k : Nat} (hx : xs = none) (hc : X.calm = true) (hN : X.N.Nodup) (ho : Paired (nmOk X) es is) : PG X (.Tuple es k pos) (PG_ (FX X cv fn xs) is (gT is)) := by
  obtain ⟨h1, h2, h3⟩ := pgs_names hN es is ho
  refine pgImp (pg_tup hc h1 h2 h3) fun v σ H Q q => ?_
  obtain ⟨m, h, d, e, e1, rh, re, rd, eg, k⟩ := q
  cases d with
  | tup ds =>
    cases rd with
    | tup sq r =>
      change (if ds.length = is.length then _ else none) = some e1 at eg
      split at eg
      · rename_i hl
        cases eg
        exact ⟨_, _, rfl, sq, by rw [← r.length]; exact hl, by rw [← r.length]; exact hl, k _ (setAll_re hx re r) setAll_but⟩
      · cases eg
  | _ => cases eg
theorem s_lc {el it : Expr} {ifs : List Expr} {scope : Scope} {own : List (Str × Nat)} {fi : ID} {g : Tg} {is : List Nat} {fe : ED} {tt : TD} (hx : xs = none) (hc : X.calm = true) (hN : X.N.Nodup) (hi : PI X tg it (PI_ (FX X cv fn xs) W fi)) (ok : BlkOk X.N X.env.scope scope own)
    (hg : ∀ (s : Shared) (H : Hp) (C : Addr) (cl : List (Str × Addr)) (fp : List Addr), PG (X.blk s H scope (compEnvC scope cl C X.env) fp) tg (PG_ (FX X cv fn xs) is g))
    (ht : ∀ (s : Shared) (H : Hp) (C : Addr) (cl : List (Str × Addr)) (fp : List Addr), PTs (X.blk s H scope (compEnvC scope cl C X.env) fp) ifs (PT_ (FX X cv fn xs) (fun _ _ _ _ => False) tt))
    (he : ∀ (s : Shared) (H : Hp) (C : Addr) (cl : List (Str × Addr)) (fp : List Addr), PE (X.blk s H scope (compEnvC scope cl C X.env) fp) el (PE_ (FX X cv fn xs) (fun _ _ _ _ => False) fe))
    (hio : ∀ i ∈ is, i ∈ own.map (·.2)) (hs : ∀ x, foldedSetIterable it X.env x = pure x) {σ : L2.St} {H : Hp} {Q : VK} (q : PE_ (FX X cv fn xs) W (dLc fi g tt fe (own.map (·.2))) σ H Q) :
    tLc (PI_ (FX X cv fn xs) W fi) (PG_ (FX X cv fn xs) is g) (PT_ (FX X cv fn xs) (fun _ _ _ _ => False) tt) (PE_ (FX X cv fn xs) (fun _ _ _ _ => False) fe) (own.map (·.2)) σ H Q := by
  obtain ⟨m, e, h, rh, re, p⟩ := q
  refine ⟨m, e, h, rh, re, p.bind fun sq h1 m1 H1 J g1 rh1 wk p1 => ?_⟩
  intro D hD
  obtain ⟨m2, g2, rh2, rd2⟩ := rh1.newL (ds := []) (vs := []) hD .nil
  have eD : m2 h1.length = D := by
    cases rd2
    rfl
  have re2 : RE (FX X cv fn xs) m2 (h1 ++ [O.lst []]).length (upd H1 D (.lst [])) (Mn.wipe e (own.map (·.2))) (L2.wipe σ (own.map (·.2))) := (g2.re (g1.re re)).wipe hx _
  have p2 := p1.base g2
  generalize own.map (·.2) = vs at *
  refine ⟨fun i n H => n = sq.items.length - i ∧ i ≤ sq.items.length ∧ ∃ m h, RH (FX X cv fn xs) m h H ∧ Ge m2 (h1 ++ [O.lst []]) (upd H1 D (.lst [])) m h H ∧
    PO (FX X cv fn xs) W (rdR (FX X cv fn xs)) σ m h H (lcGo sq.src g tt fe (Mn.wipe e vs) h1.length (sq.items.drop i) h) Q, ⟨_, rfl, Nat.zero_le _, m2, _, rh2, Ge.refl, p2⟩, ?_⟩
  rintro i n H3 ⟨rfl, hi3, m3, h3, rh3, g3, p3⟩
  have g13 := g2.trans g3
  have lt1 : h1.length < h3.length := Nat.lt_of_lt_of_le (by rw [List.length_append]; exact Nat.lt_succ_self _) g3.le
  have e3 : m3 h1.length = D := (g3.eq _ (by rw [List.length_append]; exact Nat.lt_succ_self _)).trans eD
  have wk3 := wk m3 h3 H3 rh3 g13.eq g13.le g13.tk
  by_cases hlt : i < sq.items.length
  · right
    rw [List.drop_eq_getElem_cons hlt] at p3
    unfold lcGo at p3
    split at p3
    · rename_i hok
      obtain ⟨go, _, yl⟩ := wk3 hok
      refine ⟨go i hlt, fun H' => (fun n H => n = sq.items.length - (i + 1) ∧ i + 1 ≤ sq.items.length ∧ ∃ m h, RH (FX X cv fn xs) m h H ∧ Ge m2 (h1 ++ [O.lst []]) (upd H1 D (.lst [])) m h H ∧
        PO (FX X cv fn xs) W (rdR (FX X cv fn xs)) σ m h H (lcGo sq.src g tt fe (Mn.wipe e vs) h1.length (sq.items.drop (i + 1)) h) Q) (sq.items.length - (i + 1)) H', fun H' w => ⟨_, by omega, w⟩, fun x H4 y => ?_⟩
      obtain ⟨d, ed, g4, rh4, rd4⟩ := yl i x H4 hlt y
      rw [List.getElem?_eq_getElem hlt] at ed
      cases ed
      have p4 := p3.base g4
      split at p4
      · rename_i e1 eg
        refine ⟨m3, h3, _, _, e1, rh4, g4.re (g3.re re2), rd4, eg, fun σ' re' but => ⟨wipe_but but hio, ?_⟩⟩
        refine ⟨m3, e1, h3, rh4, re', ?_⟩
        cases qt : tt e1 h3 with
        | stuck => rw [qt] at p4; exact p4.elim
        | exc x h5 => rw [qt] at p4; exact p4.elim
        | ok k h5 =>
          rw [qt] at p4
          intro m5 H5 b g5 rh5 eb
          subst eb
          cases k with
          | false =>
            rw [if_neg Bool.false_ne_true]
            exact ⟨rfl, hlt, m5, h5, rh5, (g3.trans g4).trans g5, PO.base (r := lcGo sq.src g tt fe (Mn.wipe e vs) h1.length (sq.items.drop (i + 1)) h5) p4 g5⟩
          | true =>
            rw [if_pos rfl]
            refine ⟨m5, e1, h5, rh5, g5.re re', ?_⟩
            cases qe : fe e1 h5 with
            | stuck => simp only [qe] at p4; exact p4.elim
            | exc x h6 => simp only [qe] at p4; exact p4.elim
            | ok y h6 =>
              simp only [qe] at p4
              intro m6 H6 yv g6 rh6 ry
              split at p4
              · rename_i acc ea
                split at p4
                · rename_i hz
                  obtain ⟨hn, ws, q1, q2⟩ := rh6.mut ea
                  have e6 : m6 h1.length = D := (g6.eq _ (Nat.lt_of_lt_of_le lt1 g5.le)).trans ((g5.eq _ lt1).trans e3)
                  obtain ⟨g7, rh7⟩ := rh6.putL ea q1 (q2.snoc ry)
                  have g16 := (((g3.trans g4).trans g5).trans g6).trans g7
                  refine ⟨ws, by rw [← e6]; exact q1, by rw [sizeLine_eq, ← q2.length]; exact hz, rfl, hlt, m6, h6.set h1.length (.lst (acc ++ [y])), ?_, ?_, ?_⟩
                  · rw [← e6]; exact rh7
                  · rw [e6] at g16; exact g16
                  · rw [← e6]
                    exact PO.base (r := lcGo sq.src g tt fe (Mn.wipe e vs) h1.length (sq.items.drop (i + 1)) (h6.set h1.length (.lst (acc ++ [y])))) p4 ((g5.trans g6).trans g7)
                · exact p4.elim
              · exact p4.elim
      · exact p4.elim
    · exact p3.elim
  · have ei : i = sq.items.length := by omega
    subst ei
    left
    rw [List.drop_length] at p3
    unfold lcGo at p3
    split at p3
    · rename_i hok
      obtain ⟨_, st, _⟩ := wk3 hok
      refine ⟨st, ?_⟩
      have r := RD.ref (K := X.K) (m := m3) (H := H3) lt1
      rw [e3] at r
      exact p3.here rh3 r
    · exact p3.elim
end
end Mn
namespace Mn
open PySem L2
section
variable {X : Cx} {cv : Nat → Value} {fn : Nat → Str} {xs : Xs} {W : WX} {pos : Pos} {a b c tg : Expr} {fa fb fc : ED} {t u : TD} {st : Stmt} {rest : List Stmt} {f g : SD}
theorem s_nil : PSs X [] (PS_ (FX X cv fn xs) W sNx) := pssImp pss_nil fun D σ H q => by
  obtain ⟨m, e, h, rh, re, p⟩ := q
  exact p m H σ Ge.refl rh re
theorem s_cons (h1 : PS X st (PS_ (FX X cv fn xs) W f)) (h2 : PSs X rest (PS_ (FX X cv fn xs) W g)) : PSs X (st :: rest) (PS_ (FX X cv fn xs) W (sSq f g)) :=
  pssImp (pss_cons h1 h2) fun D σ H q => by
    obtain ⟨m, e, h, rh, re, p⟩ := q
    refine ⟨m, e, h, rh, re, ?_⟩
    unfold sSq at p
    cases q : f e h with
    | stuck => rw [q] at p; exact p
    | exc x e1 h1 => rw [q] at p; exact p
    | go k e1 h1 =>
      rw [q] at p
      cases k with
      | nx => exact fun m1 H1 σ1 g1 rh1 re1 => ⟨m1, e1, h1, rh1, re1, PSo.base (r := g e1 h1) p g1⟩
      | bk => exact p
      | ct => exact p
      | rt d => exact p
theorem s_one (h1 : PS X st (PS_ (FX X cv fn xs) W f)) : PSs X [st] (PS_ (FX X cv fn xs) W f) := pss_one h1
theorem s_pass : PS X (.Pass pos) (PS_ (FX X cv fn xs) W sNx) := psImp ps_pass fun D σ H q => by
  obtain ⟨m, e, h, rh, re, p⟩ := q
  exact p m H σ Ge.refl rh re
theorem s_brk : PS X (.Break pos) (PS_ (FX X cv fn xs) W sBk) := psImp ps_break fun D σ H q => by
  obtain ⟨m, e, h, rh, re, p⟩ := q
  exact p m H σ Ge.refl rh re
theorem s_cont : PS X (.Continue pos) (PS_ (FX X cv fn xs) W sCt) := psImp ps_continue fun D σ H q => by
  obtain ⟨m, e, h, rh, re, p⟩ := q
  exact p m H σ Ge.refl rh re
theorem s_ex (ha : PE X a (PE_ (FX X cv fn xs) W fa)) (hs : swapsWith a none pos.line X.env = pure false) : PS X (.Expr a pos) (PS_ (FX X cv fn xs) W (sEx fa)) :=
  psImp (ps_expr ha hs) fun D σ H q => by
    obtain ⟨m, e, h, rh, re, p⟩ := q
    exact ⟨m, e, h, rh, re, PO.toS re p fun d h1 m1 H1 v g1 rh1 _ p1 => p1 m1 H1 σ Ge.refl rh1 (g1.re re)⟩
theorem s_rt (ha : PE X a (PE_ (FX X cv fn xs) W fa)) : PS X (.Return (some a) pos) (PS_ (FX X cv fn xs) W (sRt fa)) :=
  psImp (ps_ret ha) fun D σ H q => by
    obtain ⟨m, e, h, rh, re, p⟩ := q
    exact ⟨m, e, h, rh, re, PO.toS re p fun d h1 m1 H1 v g1 rh1 r p1 => p1 m1 H1 v Ge.refl rh1 r⟩
theorem s_rtN : PS X (.Return none pos) (PS_ (FX X cv fn xs) W (sRt (dC .non))) :=
  psImp ps_retN fun D σ H q => by
    obtain ⟨m, e, h, rh, re, p⟩ := q
    exact p m H _ Ge.refl rh .non
theorem s_ifS {x y : List Stmt} (hc : PT X c (PT_ (FX X cv fn xs) W t)) (hx : PSs X x (PS_ (FX X cv fn xs) W f)) (hy : PSs X y (PS_ (FX X cv fn xs) W g)) : PS X (.If c x y pos) (PS_ (FX X cv fn xs) W (sIf t f g)) :=
  psImp (ps_if hc hx hy) fun D σ H q => by
    obtain ⟨m, e, h, rh, re, p⟩ := q
    refine ⟨m, e, h, rh, re, PO.toS re p fun k h1 m1 H1 v g1 rh1 r p1 => ?_⟩
    subst r
    cases k with
    | true => rw [if_pos rfl] at p1 ⊢; exact ⟨m1, e, h1, rh1, g1.re re, p1⟩
    | false => rw [if_neg Bool.false_ne_true] at p1 ⊢; exact ⟨m1, e, h1, rh1, g1.re re, p1⟩
def PGD_ (T : Fx) (W : WX) (g : GD) : TG := fun v σ H Q => ∃ m h d e, RH T m h H ∧ RE T m h.length H e σ ∧ RD T.K m h.length H d v ∧ PO T W (fun m N H e1 σ1 => RE T m N H e1 σ1) σ m h H (g d e h) Q
theorem g_of {is : List Nat} {k : Tg} (h : PG X tg (PG_ (FX X cv fn xs) is k)) : PG X tg (PGD_ (FX X cv fn xs) W (ofG k)) := pgImp h fun v σ H Q q => by
  obtain ⟨m, h, d, e, rh, re, rd, p⟩ := q
  unfold ofG at p
  split at p
  · rename_i e1 eg
    exact ⟨m, h, d, e, e1, rh, re, rd, eg, fun σ' re' _ => p.here rh re'⟩
  · exact p.elim
def rSet (T : Fx) : TSet := fun o i v H Q => ∃ (W : WX) (σ : L2.St) (m : Nat → Addr) (h : Hh) (d1 d2 d3 : D), RH T m h H ∧ RD T.K m h.length H d1 o ∧ RD T.K m h.length H d2 i ∧ RD T.K m h.length H d3 v ∧
  PO T W (fun _ _ _ (_ : Unit) (_ : Unit) => True) σ m h H (setD d1 d2 d3 h) fun _ H' => Q H'
theorem o_set : PSet X (rSet (FX X cv fn xs)) := by
  intro pins s σ0 H o i v ov iv u Q I ro ri rv hh
  obtain ⟨W, σ, m, h, d1, d2, d3, rh, r1, r2, r3, p⟩ := hh
  unfold setD at p
  split at p
  · cases r1
    cases r2
    split at p
    · rename_i e
      split at p
      · rename_i j ej
        obtain ⟨hn, vs, q1, q2⟩ := rh.mut e
        obtain ⟨g, rh'⟩ := rh.putL e q1 (q2.set j r3)
        exact set_list pins s σ0 H _ _ v ov iv u Q I ro ri rv ⟨_, _, _, j, rfl, rfl, q1, by rw [← q2.length]; exact ej, p m _ () g rh' trivial⟩
      · exact p.elim
    · exact p.elim
  · exact p.elim
theorem g_ix {o i : Expr} {fo fi : ED} (ho : PE X o (PE_ (FX X cv fn xs) W fo)) (hi : PE X i (PE_ (FX X cv fn xs) W fi)) (ha : ∀ v, assign (.Subscript o i pos) X.env v = (do
      let ov ← holding [v] (eval o X.env)
      let iv ← holding [v, ov] (eval i X.env)
      standAt pos
      holding [v, ov, iv] (setItem ov iv v)
      release [v, ov, iv] [])) : PG X (.Subscript o i pos) (PGD_ (FX X cv fn xs) W (gIx fo fi)) :=
  pgImp (pg_sub ho hi o_set ha) fun v σ H Q q => by
    obtain ⟨m, h, d, e, rh, re, rd, p⟩ := q
    refine ⟨m, e, h, rh, re, p.bind fun x h1 m1 H1 xv g1 rh1 rx p1 => ⟨m1, e, h1, rh1, g1.re re, p1.bind fun y h2 m2 H2 yv g2 rh2 ry p2 => ?_⟩⟩
    refine ⟨W, σ, m2, h2, x, y, d, rh2, g2.rd rx, ry, (g1.trans g2).rd rd, p2.bind fun _ h3 m3 H3 _ g3 rh3 _ p3 => ?_⟩
    exact p3.here rh3 (((g1.trans g2).trans g3).re re)
theorem as_rd {D : Ends} {σ : L2.St} {H : Hp} {k : GD} (q : PS_ (FX X cv fn xs) W (sAs fa k) D σ H) : PE_ (FX X cv fn xs) W fa σ H fun x H1 => PGD_ (FX X cv fn xs) W k x σ H1 D.nx := by
  obtain ⟨m, e, h, rh, re, p⟩ := q
  refine ⟨m, e, h, rh, re, PO.toS re p fun d h1 m1 H1 v g1 rh1 r p1 => ⟨m1, h1, d, e, rh1, g1.re re, r, PO.toS (g1.re re) p1 fun e1 h2 m2 H2 σ2 g2 rh2 re2 p2 => ?_⟩⟩
  exact p2 m2 H2 σ2 Ge.refl rh2 re2
theorem s_as {k : GD} (ha : PE X a (PE_ (FX X cv fn xs) W fa)) (hg : PG X tg (PGD_ (FX X cv fn xs) W k)) (hs : swapsWithSole [tg] a pos.line X.env = pure false) (hw : swappedStores [tg] a X.env = pure none)
    (h1 : (assignEach [tg] X.env).map (·.2) = [assign tg X.env]) : PS X (.Assign [tg] a pos) (PS_ (FX X cv fn xs) W (sAs fa k)) :=
  psImp (ps_asg ha hg hs hw h1) fun D σ H q => as_rd q
theorem s_asLc {el it : Expr} {ifs : List Expr} {scope : Scope} {own : List (Str × Nat)} {fi : ID} {k : Tg} {is : List Nat} {fe : ED} {tt : TD} {i : Nat} {y : Str} {py spos : Pos} (hx : xs = none) (hc : X.calm = true) (hN : X.N.Nodup) (hy : X.N[i]? = some y) (hyl : X.env.scope.names.lookup y = some .local)
    (hsw : swapsWith (.ListComp el [⟨tg, it, ifs, 0⟩] scope pos) (some (.Name y py)) spos.line X.env = pure true) (hi : PI X tg it (PI_ (FX X cv fn xs) W fi)) (ok : BlkOk X.N X.env.scope scope own)
    (hg : ∀ (s : Shared) (H : Hp) (C : Addr) (cl : List (Str × Addr)) (fp : List Addr), PG (X.blk s H scope (compEnvC scope cl C X.env) fp) tg (PG_ (FX X cv fn xs) is k))
    (ht : ∀ (s : Shared) (H : Hp) (C : Addr) (cl : List (Str × Addr)) (fp : List Addr), PTs (X.blk s H scope (compEnvC scope cl C X.env) fp) ifs (PT_ (FX X cv fn xs) (fun _ _ _ _ => False) tt))
    (he : ∀ (s : Shared) (H : Hp) (C : Addr) (cl : List (Str × Addr)) (fp : List Addr), PE (X.blk s H scope (compEnvC scope cl C X.env) fp) el (PE_ (FX X cv fn xs) (fun _ _ _ _ => False) fe))
    (hio : ∀ i ∈ is, i ∈ own.map (·.2)) (hs : ∀ x, foldedSetIterable it X.env x = pure x) :
    PS X (.Assign [.Name y py] (.ListComp el [⟨tg, it, ifs, 0⟩] scope pos) spos) (PS_ (FX X cv fn xs) W (sAs (dLc fi k tt fe (own.map (·.2))) (ofG (gN i)))) :=
  psImp (ps_setLc hc hN hy hyl hsw hi ok hg ht he hs) fun D σ H q => by
    have q1 := as_rd q
    obtain ⟨m, e, h, rh, re, p⟩ := q1
    refine s_lc hx hc hN hi ok hg ht he hio hs (Q := fun x H1 => gName i x σ H1 D.nx) ⟨m, e, h, rh, re, ?_⟩
    have w : ∀ {r : R Mn.D}, PO (FX X cv fn xs) W (rdR (FX X cv fn xs)) σ m h H r (fun x H1 => PGD_ (FX X cv fn xs) W (ofG (gN i)) x σ H1 D.nx) → PO (FX X cv fn xs) W (rdR (FX X cv fn xs)) σ m h H r (fun x H1 => gName i x σ H1 D.nx) := fun {r} p => by
      cases r with
      | stuck => exact p
      | exc x h1 => exact p
      | ok d h1 =>
        intro m1 H1 v g1 rh1 r1
        obtain ⟨m2, h2, d2, e2, rh2, re2, rd2, p2⟩ := p m1 H1 v g1 rh1 r1
        exact p2 m2 H1 _ Ge.refl rh2 (re2.set i (fun j a h => by rw [show xs = some (j, a) from h] at hx; cases hx) rd2)
    exact w p
theorem for_imp {fi : ID} {k : Tg} {is : List Nat} {D : Ends} {σ : L2.St} {H : Hp} (q : PS_ (FX X cv fn xs) W (sFor fi k f) D σ H) : tFor (PI_ (FX X cv fn xs) W fi) (PG_ (FX X cv fn xs) is k) (PS_ (FX X cv fn xs) W f) D σ H := by
  obtain ⟨m, e, h, rh, re, p⟩ := q
  refine ⟨m, e, h, rh, re, PO.toS re p fun sq h1 m1 H1 J g1 rh1 wk p1 => ?_⟩
  refine ⟨fun i n σ H => n = sq.items.length - i ∧ i ≤ sq.items.length ∧ ∃ m e h, RH (FX X cv fn xs) m h H ∧ RE (FX X cv fn xs) m h.length H e σ ∧ Ge m1 h1 H1 m h H ∧
    PSo (FX X cv fn xs) W D m h H (forGo sq.src k f (sq.items.drop i) e h), ⟨_, rfl, Nat.zero_le _, m1, e, h1, rh1, g1.re re, Ge.refl, p1⟩, ?_⟩
  rintro i n σ3 H3 ⟨rfl, hi3, m3, e3, h3, rh3, re3, g3, p3⟩
  have wk3 := wk m3 h3 H3 rh3 g3.eq g3.le g3.tk
  by_cases hlt : i < sq.items.length
  · right
    rw [List.drop_eq_getElem_cons hlt] at p3
    unfold forGo at p3
    split at p3
    · rename_i hok
      obtain ⟨go, _, yl⟩ := wk3 hok
      refine ⟨go i hlt, fun σ' H' => (fun n σ H => n = sq.items.length - (i + 1) ∧ i + 1 ≤ sq.items.length ∧ ∃ m e h, RH (FX X cv fn xs) m h H ∧ RE (FX X cv fn xs) m h.length H e σ ∧ Ge m1 h1 H1 m h H ∧
        PSo (FX X cv fn xs) W D m h H (forGo sq.src k f (sq.items.drop (i + 1)) e h)) (sq.items.length - (i + 1)) σ' H', fun σ' H' w => ⟨_, by omega, w⟩, fun x H4 y => ?_⟩
      obtain ⟨d, ed, g4, rh4, rd4⟩ := yl i x H4 hlt y
      rw [List.getElem?_eq_getElem hlt] at ed
      cases ed
      have p4 := p3.base g4
      split at p4
      · rename_i e4 eg
        refine ⟨m3, h3, _, _, e4, rh4, g4.re re3, rd4, eg, fun σ' re' _ => ⟨m3, e4, h3, rh4, re', ?_⟩⟩
        cases qf : f e4 h3 with
        | stuck => rw [qf] at p4; exact p4
        | exc x e5 h5 => rw [qf] at p4; exact p4
        | go fl e5 h5 =>
          rw [qf] at p4
          cases fl with
          | nx => exact fun m5 H5 σ5 g5 rh5 re5 => ⟨rfl, hlt, m5, e5, h5, rh5, re5, (g3.trans g4).trans g5, PSo.base (r := forGo sq.src k f (sq.items.drop (i + 1)) e5 h5) p4 g5⟩
          | ct => exact fun m5 H5 σ5 g5 rh5 re5 => ⟨rfl, hlt, m5, e5, h5, rh5, re5, (g3.trans g4).trans g5, PSo.base (r := forGo sq.src k f (sq.items.drop (i + 1)) e5 h5) p4 g5⟩
          | bk => exact p4
          | rt d => exact p4
      · exact p4.elim
    · exact p3.elim
  · have ei : i = sq.items.length := by omega
    subst ei
    left
    rw [List.drop_length] at p3
    unfold forGo at p3
    split at p3
    · rename_i hok
      obtain ⟨_, st, _⟩ := wk3 hok
      exact ⟨st, p3 m3 H3 σ3 Ge.refl rh3 re3⟩
    · exact p3.elim
theorem s_for {it : Expr} {body : List Stmt} {fi : ID} {k : Tg} {is : List Nat} (hp : PassesOwn (model X.prog X.w) X.A X.env X.xe) (hc : X.calm = true) (hi : PI X tg it (PI_ (FX X cv fn xs) W fi)) (hg : PG X tg (PG_ (FX X cv fn xs) is k)) (hb : PSs X body (PS_ (FX X cv fn xs) W f))
    (hs : ∀ x, foldedSetIterable it X.env x = pure x) : PS X (.For tg it body [] pos) (PS_ (FX X cv fn xs) W (sFor fi k f)) :=
  psImp (ps_for hp hc hi hg hb hs) fun D σ H q => for_imp q
theorem s_while {body : List Stmt} (n : Nat) (hp : PassesOwn (model X.prog X.w) X.A X.env X.xe) (hc : PT X c (PT_ (FX X cv fn xs) W t)) (hb : PSs X body (PS_ (FX X cv fn xs) W f)) : PS X (.While c body [] pos) (PS_ (FX X cv fn xs) W (whGo t f n)) :=
  psImp (ps_while hp hc hb) fun D σ H q => by
    refine ⟨fun n σ H => PS_ (FX X cv fn xs) W (whGo t f n) D σ H, ⟨n, q⟩, ?_⟩
    intro n σ H q
    obtain ⟨m, e, h, rh, re, p⟩ := q
    cases n with
    | zero => exact p.elim
    | succ n =>
      refine ⟨m, e, h, rh, re, PO.toS re p fun k h1 m1 H1 v g1 rh1 r p1 => ?_⟩
      subst r
      cases k with
      | false => rw [if_neg Bool.false_ne_true] at p1 ⊢; exact p1 m1 H1 σ Ge.refl rh1 (g1.re re)
      | true =>
        rw [if_pos rfl] at p1 ⊢
        refine ⟨fun σ' H' => PS_ (FX X cv fn xs) W (whGo t f n) D σ' H', fun σ' H' w => ⟨n, Nat.lt_succ_self _, w⟩, m1, e, h1, rh1, g1.re re, ?_⟩
        cases qf : f e h1 with
        | stuck => simp only [qf] at p1; exact p1
        | exc x e5 h5 => simp only [qf] at p1; exact p1
        | go fl e5 h5 =>
          simp only [qf] at p1
          cases fl with
          | nx => exact fun m5 H5 σ5 g5 rh5 re5 => ⟨m5, e5, h5, rh5, re5, PSo.base (r := whGo t f n e5 h5) p1 g5⟩
          | ct => exact fun m5 H5 σ5 g5 rh5 re5 => ⟨m5, e5, h5, rh5, re5, PSo.base (r := whGo t f n e5 h5) p1 g5⟩
          | bk => exact p1
          | rt d => exact p1
theorem pmk0 {C : Addr} {bmB : List Value} {B newId initId : String} {x : Str} {p : Pos} (F : ExcBaseFacts B newId initId bmB) (q : PySem.W.excIn X.K C bmB newId = true) (gC : X.mg x = some (.ref C)) (kC : PySem.W.keepIn X.K (.ref C) = true) (r : Raises X (.ref C)) (hg : Gl X x)
    (hdb : (x == ("__debug__" : Str)) = false) : L2N.PMk X (.Call (.Name x p) [] [] pos) (fun _ H Q => Q (.ref C) none H) := by
  intro pins s σ H Q I h
  refine wpAny_Call_Name_kw (ld_glob I hg gC ?_ hdb)
  refine PySem.W.callWith_K0 I.kIn kC ?_
  obtain ⟨bm, N, nm, qn, bs, hdct, sn, sub, ab, col, dd, k0, k1, k2, k3, k5, mN, hC, hN, hni, T⟩ := exc_obj I.kIn q
  obtain ⟨hp, gg, dr, tk, os⟩ := s
  exact wpAny_call_exc_subT F T hC hN hni (fun h' e hm => L2N.mk_of I hm r h (I.hok.gone hm.new)) (by rw [List.append_nil, sizeLine_eq]; exact Nat.zero_le _)
theorem s_raise {cl : Nat} {C : Addr} (hx : xs = none) (hc : X.calm = true) (tk : L2N.Takes X W) (ecv : cv cl = .ref C) (hp : L2N.PMk X a (fun _ H Q => Q (.ref C) none H)) : PS X (.Raise (some a) none pos) (PS_ (FX X cv fn xs) W (sRaise cl)) :=
  psImp (L2N.ps_raise hc tk hp) fun D σ H q => by
    obtain ⟨m, e, h, rh, re, p⟩ := q
    exact p m H σ (.ref C) none Ge.refl rh re ⟨ecv.symm, fun _ => rfl, fun z => absurd rfl z⟩
theorem s_try {body suite : List Stmt} {b₀ : Stmt} {n : Str} {i : Nat} {x : Str} {np pos' : Pos} {sub : Nat → Nat → Option Bool} {hd : Nat} {fs : Xc → SD} (hx : xs = none) (hs : X.stack = X.env :: X.outer) (hf : X.env.frame = some X.env.locals) (hN : X.N.Nodup) (hi : X.N[i]? = some n) (hln : X.env.kindOf n = some .local)
    (hc : Names X x (cv hd)) (tk : L2N.Takes X W) (hsub : ∀ c1 c2 b, sub c1 c2 = some b → PySem.W.exmOne X.K (cv c1) (cv c2) = some b)
    (hb : ∀ (W : WX) (pn : List (Addr × Obj)) (xe : Value → Shared → Prop), L2N.Takes (X.tr pn xe) W → PassesOwn (model X.prog X.w) X.A X.env xe → PSs (X.tr pn xe) body (PS_ (FX X cv fn xs) W f))
    (hsu : ∀ (a : Addr) (oe : Obj) (x : Xc) (d : Option Addr) (pn : List (Addr × Obj)), L2N.Zn (cv x.cls) d oe → (∃ vs, oe.data = .fields vs) → (x.fs = [] → d = none) → PSs (X.suite a ((a, oe) :: pn)) (b₀ :: suite) (PS_ (FX X cv fn (some (i, a, x, d))) (fun _ _ _ _ => False) (fs x))) :
    PS X (.Try body [.ExceptHandler (some (.Name x np)) (some n) (b₀ :: suite) pos'] [] [] pos) (PS_ (FX X cv fn xs) W (sTry sub f ⟨hd, some i, fs⟩)) := by
  subst hx
  refine psImp (L2N.ps_try_as (ts := fun a cls d D σ H => ∃ y : Xc, cls = cv y.cls ∧ (y.fs = [] → d = none) ∧ PS_ (FX X cv fn (some (i, a, y, d))) (fun _ _ _ _ => False) (fs y) D σ H) hs hf hN hi hln hc tk hb
    fun a oe cls d pn hz hfl => ⟨fun pins s σ H D I q => ?_⟩) fun D σ H q => ?_
  · obtain ⟨y, e1, e2, q⟩ := q
    subst e1
    exact (hsu a oe y d pn hz hfl e2).run pins s σ H D I q
  · obtain ⟨m, e, h, rh, re, p⟩ := q
    refine ⟨m, e, h, rh, re, ?_⟩
    unfold sTry at p
    cases qf : f e h with
    | stuck => rw [qf] at p; exact p
    | go fl e1 h1 => rw [qf] at p; exact p.flow
    | exc y e1 h1 =>
      rw [qf] at p
      intro m1 H1 σ1 cls dd g1 rh1 re1 rx
      simp only at p
      cases qs : sub y.cls hd with
      | none => rw [qs] at p; exact p.elim
      | some k =>
        rw [qs] at p
        obtain ⟨ec, rx'⟩ := rx
        refine ⟨k, by rw [ec]; exact hsub _ _ _ qs, fun ek ad had => ?_, fun ek => ?_⟩
        · subst ek
          simp only at p
          by_cases hok : slotOk e1 (some i) = true
          case neg => rw [if_neg hok] at p; exact p.elim
          rw [if_pos hok] at p
          have hi' : i < σ1.length := by
            rw [← re1.len]
            exact of_decide_eq_true hok
          refine ⟨y, ec, rx'.1, m1, e1.set i none, h1, rh1.ex, ⟨?_, fun j d hj => ?_, fun j b y' d' hj => ?_⟩, ?_⟩
          · rw [List.length_set, List.length_set]; exact re1.len
          · by_cases hij : i = j
            · subst hij
              by_cases hl : i < e1.length
              · rw [List.getElem?_set_self hl] at hj; cases hj
              · rw [List.getElem?_eq_none (by rw [List.length_set]; omega)] at hj; cases hj
            · rw [List.getElem?_set_ne hij] at hj ⊢
              exact re1.at_ j d hj
          · cases hj
            exact ⟨List.getElem?_set_self hi', rx'⟩
          · have p1 := PSo.base p g1
            cases qg : fs y (e1.set i none) h1 with
            | stuck => simp only [clr, qg] at p1; exact p1.elim
            | exc x e2 h2 => simp only [clr, qg] at p1; exact p1.elim
            | go fl e2 h2 =>
              simp only [clr, qg] at p1
              have back : ∀ {m' : Nat → Addr} {N : Nat} {H' : Hp} {σ' : L2.St}, RE (FX X cv fn (some (i, ad, y, dd))) m' N H' e2 σ' → RE (FX X cv fn none) m' N H' (e2.set i none) (σ'.set i none) := fun {m' N H' σ'} r =>
                RE.drop1 (T := FX X cv fn none) ⟨r.len, r.at_, fun _ _ _ _ z => by cases z⟩ i (fun _ _ z => by cases z) none
              cases fl with
              | nx => exact fun m2 H2 σ2 g2 rh2 re2 => p1 m2 H2 _ g2 rh2.ex (back re2)
              | bk => exact fun m2 H2 σ2 g2 rh2 re2 => p1 m2 H2 _ g2 rh2.ex (back re2)
              | ct => exact fun m2 H2 σ2 g2 rh2 re2 => p1 m2 H2 _ g2 rh2.ex (back re2)
              | rt d => exact fun m2 H2 v2 g2 rh2 re2 => p1 m2 H2 _ g2 rh2.ex re2
        · subst ek
          exact p m1 H1 σ1 cls dd g1 rh1 re1 ⟨ec, rx'⟩
end
end Mn
namespace Mn
open PySem PySem.Spec PyProof.Rows
section
variable {pr : Program} {wd : World} {A0 : Around} {s0 : Shared} {Rz : Result → Shared → Prop}
abbrev RevIt (items : Array Value) : Nat → Value → Prop := fun i v => items[items.size - 1 - i]? = some v
theorem ext_rev {S J l : Addr} {items : Array Value} {c0 : Nat} (hh : A0.handled = none) (oS : s0.heap.get? S = some { cls := .type "list", data := .seq #[] c0 }) (oJ : s0.heap.IsRevIter J l ((items.size : Int) - 1))
    (ol : s0.heap.IsList l items) (n1 : l ≠ J) (n2 : S ≠ J) (n3 : S ≠ l) (hz : items.size ≤ sizeLine)
    (k : ∀ (h' : Heap) (t' : Nat) (acc : Array Value) (c' : Nat), (∀ b o, b ≠ S → b ≠ J → s0.heap.get? b = some o → h'.get? b = some o) → h'.get? S = some { cls := .type "list", dict := none, data := .seq acc c', slots := #[] } → ItemsOf (RevIt items) acc items.size →
      Rz (.ok (.ret .none)) { s0 with heap := h', toks := t' }) :
    wpAny (model pr wd) A0.in1 (Builtin.List.listExtendWith (.ref S) (.ref J) .none)
      (fun fin s' => match fin with | .done f => Rz (.ok f) s' | .again c' => c'.quiet = true ∧ codeAny (model pr wd) A0 c' Rz s') (fun e s' => Rz (.error e) s') s0 := by
  have Wk := (Walks.listRev (prog := pr) (w := wd) (A := A0.in1) hh J l n1 items).toS
  have nf : S ∉ [J, l] := by
    simp only [List.mem_cons, List.not_mem_nil, or_false, not_or]
    exact ⟨n2, n3⟩
  have tJ : s0.TypeIs (.ref J) "list_reverseiterator" := Heap.IsRevIter.typeIs oJ
  have same : Builtin.List.listSameRef (.ref S) (.ref J) = false := by simp [Builtin.List.listSameRef, n2]
  have ez : ((items.size : Nat) : Int) - 1 - ((0 : Nat) : Int) = (items.size : Int) - 1 := by omega
  unfold Builtin.List.listExtendWith
  refine wpAny_bind (wpAny_typeOf tJ ?_)
  rw [if_neg (by rw [same]; decide)]
  refine wpAny_bind (wpAny_pyIter_revIter oJ ?_)
  refine wpAny_bind (wpAny_holding ?_)
  unfold Builtin.List.listLengthHint
  refine wpAny_bind (wpAny_specialOf tJ RT.nolen_lri ?_)
  show wpAny _ A0.in1 (specialOf (Value.ref J) (Str.ofString "__length_hint__") >>= _) _ _ _
  refine wpAny_bind (wpAny_specialOf tJ RT.hint_lri ?_)
  generalize hid : ("list_reverseiterator.__length_hint__" : String) = i0
  wp_delta
  rw [show splitId i0 = some ("list_reverseiterator", "__length_hint__") from by subst hid; decide +kernel]
  subst hid
  refine wpAny_bind (wpAny_isInstance (b := true) tJ (by rw [isSubtype_type]; kernel_rfl) ?_)
  refine wpAny_pure ?_
  rw [if_neg (by decide)]
  refine wpAny_pure ⟨plainId_quiet F.plain_extend_loop _, ?_⟩
  refine codeAny_extend_loopS Wk hz S nf .none items.size 0 _ _ _ rfl (Nat.zero_le _) ⟨Nat.zero_le _, by rw [ez]; exact oJ, ol⟩ oS (ItemsOf.nil _) fun s' acc c' mv oS' it => ?_
  rw [Moved.eq_with mv]
  refine k _ _ acc c' (fun b o b1 b2 e => mv.heap b o (fun z => ?_) e) oS' it
  rcases List.mem_cons.mp z with z | z
  · exact b1 z
  · exact b2 (List.mem_singleton.mp z)
theorem call_list_revIt {J l : Addr} {items : Array Value} {Qv : Value → Shared → Prop} {Ev : Value → Shared → Prop} (hh : A0.handled = none) (oJ : s0.heap.IsRevIter J l ((items.size : Int) - 1)) (ol : s0.heap.IsList l items) (n1 : l ≠ J) (hz : items.size ≤ sizeLine)
    (k : ∀ (h' : Heap) (t' : Nat) (acc : Array Value) (c' : Nat), (∀ b o, b ≠ J → s0.heap.get? b = some o → h'.get? b = some o) → h'.get? s0.heap.objs.size = some { cls := .type "list", dict := none, data := .seq acc c', slots := #[] } → ItemsOf (RevIt items) acc items.size →
      Qv (.ref s0.heap.objs.size) { s0 with heap := h', toks := t' }) : wpAny (model pr wd) A0 (call (.type "list") [.ref J]) Qv Ev s0 := by
  obtain ⟨uJ, gJ, _⟩ := id oJ
  obtain ⟨ul, gl, _⟩ := id ol
  have m2 : s0.heap.objs.size ≠ J := Nat.ne_of_gt (Heap.lt_size gJ)
  have m3 : s0.heap.objs.size ≠ l := Nat.ne_of_gt (Heap.lt_size gl)
  refine callType_codes (Q₁ := fun ob sb => ob = .ref s0.heap.objs.size ∧ sb = { s0 with heap := s0.heap.push { cls := .type "list", data := .seq #[] } }) F.called_list (F.typeCall_list_1 _) F.entry_list_init (code_list_new _ ⟨rfl, rfl⟩) fun ob sb e12 => ?_
  obtain ⟨e1, e2⟩ := e12
  subst e1; subst e2
  have g0 : (s0.heap.push { cls := .type "list", data := .seq #[] }).get? s0.heap.objs.size = some { cls := .type "list", data := .seq #[] } := Heap.get?_push_size _ rfl
  refine ⟨⟨_, g0, rfl⟩, F.args_list_init_2 _ _, ?_⟩
  show wpAny _ _ (Builtin.List.listItems (.ref s0.heap.objs.size) >>= fun old => Builtin.List.listUpdate (.ref s0.heap.objs.size) (fun _ => #[]) >>= fun _ => letGo old.toList.reverse >>= fun _ => Builtin.List.listExtendWith (.ref s0.heap.objs.size) (.ref J) .none) _ _ _
  refine wpAny_bind ?_
  unfold Builtin.List.listItems
  refine wpAny_bind (wpAny_seqItems g0 rfl (wpAny_pure ?_))
  refine wpAny_bind ?_
  show wpAny _ _ (updateSeq s0.heap.objs.size (fun _ => #[])) _ _ _
  refine wpAny_updateSeq g0 rfl ?_
  have g1 := Heap.get?_update_self (Obj.mapSeq (fun _ => (#[] : Array Value))) g0 rfl
  have far : ∀ b o, b ≠ s0.heap.objs.size → s0.heap.get? b = some o → ((s0.heap.push { cls := .type "list", data := .seq #[] }).update s0.heap.objs.size (Obj.mapSeq (fun _ => (#[] : Array Value)))).get? b = some o :=
    fun b o hb e => (Heap.get?_update_other _ _ (Ne.symm hb)).trans (Heap.get?_push_of_some _ e)
  refine wpAny_bind (wpAny_letGo ?_)
  refine ext_rev (A0 := A0.in1) hh g1 (oJ.at fun o e => far J o (Ne.symm m2) e) (ol.at fun o e => far l o (Ne.symm m3) e) n1 m2 m3 hz fun h' t' acc c' kp gS it => ?_
  exact ⟨rfl, k h' t' acc c' (fun b o b1 e => kp b o (fun z => by rw [z] at e; exact absurd (Heap.lt_size e) (Nat.lt_irrefl _)) b1 (far b o (fun z => by rw [z] at e; exact absurd (Heap.lt_size e) (Nat.lt_irrefl _)) e)) gS it⟩
end
open L2
theorem vals_back {ys : List V} {us : List Value} (r : Vals ys us) {acc : Array Value} (it : ItemsOf (RevIt us.toArray) acc us.toArray.size) : Vals ys.reverse acc.toList := RT.vals_rev r it
def tLRev (K : PySem.W.Frag) (te : TE) : TE := fun σ H Q => te σ H fun v H1 => ∃ (a : Addr) (ys : List V), v = .ref a ∧ SqL K H1 a ys ∧ ∀ q, H1 q = none → Q (.ref q) (upd H1 q (.lst ys.reverse))
theorem pe_lRev {X : Cx} {e : Expr} {te : TE} {p p2 pos pos2 : Pos} (hc : X.calm = true) (hg : Gl X "list") (hm : X.mg "list" = none) (hg2 : Gl X "reversed") (hm2 : X.mg "reversed" = none) (he : PE X e te)
    (hs : starEach [e] X.env = (false, eval e X.env) :: starEach [] X.env) :
    PE X (.Call (.Name "list" p) [.Call (.Name "reversed" p2) [e] [] pos2] [] pos) (tLRev X.K te) := by
  have hs2 : starEach [.Call (.Name "reversed" p2) [e] [] pos2] X.env = (false, eval (.Call (.Name "reversed" p2) [e] [] pos2) X.env) :: starEach [] X.env := rfl
  constructor
  intro pins s σ H Q I h
  refine Call_ (ld_blt I hg hm boot_list (PyProof.Rows.callWith_type1 (args_cons (Call_ (ld_blt I hg2 hm2 PyProof.Rows.boot_reversed (PyProof.Rows.callWith_type1 (args_cons (thn (he.run pins s σ H _ I h) fun u s1 ⟨v, H1, I1, r1, z⟩ => args_nil ?_) hs) hs rfl))) hs2) hs2 rfl))
  obtain ⟨a, ys, ev, sq, z⟩ := z
  subst ev
  cases r1
  obtain ⟨us, rv, pl, hz⟩ := I1.list sq
  have ol := pl.isList
  obtain ⟨oa, ga, _⟩ := id ol
  have hn : us.toArray.size ≤ sizeLine := by rw [List.size_toArray, ← rv.length]; exact hz
  refine call_reversed_list ol (args_nil ?_)
  have na : a ≠ s1.heap.objs.size := Nat.ne_of_lt (Heap.lt_size ga)
  refine call_list_revIt (s0 := { s1 with heap := s1.heap.push (revObj a ((us.toArray.size : Int) - 1)) }) (I1.ok.hd hc) ⟨_, Heap.get?_push_size _ rfl, rfl, rfl⟩ (ol.push _) na hn fun h' t' acc c' kp gS it => ?_
  have kp' : ∀ b o, s1.heap.get? b = some o → h'.get? b = some o := fun b o eo => kp b o (Nat.ne_of_lt (Heap.lt_size eo)) (Heap.get?_push_of_some _ eo)
  have sz : s1.heap.objs.size ≤ (s1.heap.push (revObj a ((us.toArray.size : Int) - 1))).objs.size := by rw [Heap.size_push]; omega
  refine ⟨.ref _, _, I1.laid (t' := t') kp' sz (o := .lst ys.reverse) ⟨by rw [List.length_reverse]; exact hz, acc.toList, c', vals_back rv it, ?_⟩, rfl, z _ (I1.hok.fresh sz)⟩
  rw [Array.toArray_toList]
  exact gS
end Mn
namespace Mn
open PySem L2
theorem RDs.strs {K : PySem.W.Frag} {m : Nat → Addr} {N : Nat} {H : Hp} : ∀ l : List Str, RDs K m N H (l.map .str) (l.map .str)
  | [] => .nil
  | s :: l => .cons (.str s) (RDs.strs l)
theorem RDs.intsD {K : PySem.W.Frag} {m : Nat → Addr} {N : Nat} {H : Hp} : ∀ l : List Int, RDs K m N H (l.map .int) (l.map .int)
  | [] => .nil
  | s :: l => .cons (.int s) (RDs.intsD l)
theorem RDs.erase {K : PySem.W.Frag} {m : Nat → Addr} {N : Nat} {H : Hp} : ∀ {ds : List D} {vs : List V} (j : Nat), RDs K m N H ds vs → RDs K m N H (ds.eraseIdx j) (vs.eraseIdx j)
  | _, _, _, .nil => .nil
  | _, _, 0, .cons _ r => r
  | _, _, j + 1, .cons a r => .cons a (RDs.erase j r)
theorem RDs.cut {K : PySem.W.Frag} {m : Nat → Addr} {N : Nat} {H : Hp} {ds : List D} {vs : List V} (lo hi : Option Int) (r : RDs K m N H ds vs) : RDs K m N H (cutD ds lo hi) (cutV vs lo hi) := by
  unfold cutD cutV
  rw [r.length]
  exact (r.drop _).take _
theorem strsOf_rd {K : PySem.W.Frag} {m : Nat → Addr} {N : Nat} {H : Hp} : ∀ {ds : List D} {vs : List V} {ys : List Str}, RDs K m N H ds vs → strsOf ds = some ys → vs = ys.map .str
  | _, _, ys, .nil, e => by cases e; rfl
  | _, _, ys, .cons (d := d) a r, e => by
    cases a <;> first | (cases e; done) | skip
    rename_i s
    change (strsOf _).map _ = _ at e
    cases q : strsOf (_ : List D) with
    | none => rw [q] at e; cases e
    | some zs => rw [q] at e; cases e; rw [strsOf_rd r q]; rfl
section
variable {X : Cx} {cv : Nat → Value} {fn : Nat → Str} {xs : Xs} {W : WX} {pos : Pos} {a b c : Expr} {fa fb fc : ED}
def r3 (T : Fx) (g : D → Option Int → Option Int → Hh → R D) : V → Option Int → Option Int → Hp → VK → Prop := fun x lo hi H Q => ∃ (W : WX) (σ : L2.St) (m : Nat → Addr) (h : Hh) (d : D), RH T m h H ∧ RD T.K m h.length H d x ∧ PO T W (rdR T) σ m h H (g d lo hi h) Q
theorem o_sl : SlR X (r3 (FX X cv fn xs) slD) := by
  intro pins s σ0 H x v vl vu lo hi sl Q I rx hs pl pu hh
  obtain ⟨W, σ, m, h, d, rh, rd, p⟩ := hh
  unfold slD at p
  split at p
  · cases rd
    split at p
    · rename_i e
      obtain ⟨_, vs, sq, q⟩ := rh.lst e
      exact sl_list pins s σ0 H _ v vl vu lo hi sl Q I rx hs pl pu ⟨_, _, rfl, sq, p.new rh (q.cut lo hi)⟩
    · exact p.elim
  · cases rd with
    | tup sq q =>
      refine sl_tupA pins s σ0 H _ v vl vu lo hi sl Q I rx hs pl pu ⟨_, _, rfl, sq, fun z => ?_, fun _ => p.newT rh (q.cut lo hi)⟩
      rename_i ds aa vs
      have e : cutD ds lo hi = ds := by
        unfold cutD
        rw [q.length, z.1, z.2, List.drop_zero, ← q.length, Nat.sub_zero, List.take_length]
      rw [e] at p
      exact p.here rh (.tup sq q)
  · cases rd
    split at p
    · rename_i hz
      exact sl_str pins s σ0 H _ v vl vu lo hi sl Q I rx hs pl pu ⟨_, rfl, by rw [sizeLine_eq]; exact hz, p.here rh (.str _)⟩
    · exact p.elim
  · exact p.elim
def OO_ (T : Fx) (W : WX) (f : OD) : TO := fun σ H Q => ∃ m e h, RH T m h H ∧ RE T m h.length H e σ ∧ PO T W (fun _ _ _ d v => d = v) σ m h H (f e h) Q
theorem poImp {e : Option Expr} {t t' : TO} (h : L2.PO X e t) (w : ∀ σ H Q, t' σ H Q → t σ H Q) : L2.PO X e t' := ⟨fun pins s σ H Q I q => h.run pins s σ H Q I (w σ H Q q)⟩
theorem s_oN : L2.PO X none (OO_ (FX X cv fn xs) W oN) := poImp po_none fun σ H Q q => by
  obtain ⟨m, e, h, rh, re, p⟩ := q
  exact p.here rh rfl
theorem s_oS (ha : PE X a (PE_ (FX X cv fn xs) W fa)) : L2.PO X (some a) (OO_ (FX X cv fn xs) W (oS fa)) := poImp (po_some ha) fun σ H Q q => by
  obtain ⟨m, e, h, rh, re, p⟩ := q
  refine ⟨m, e, h, rh, re, p.bind fun x h1 m1 H1 v g1 rh1 r1 p1 => ?_⟩
  split at p1
  · cases r1
    exact ⟨_, rfl, p1.here rh1 rfl⟩
  · exact p1.elim
theorem s_sl {lo hi : Option Expr} {fl fh : OD} {p2 : Pos} (ha : PE X a (PE_ (FX X cv fn xs) W fa)) (hl : L2.PO X lo (OO_ (FX X cv fn xs) W fl)) (hh : L2.PO X hi (OO_ (FX X cv fn xs) W fh)) : PE X (.Subscript a (.Slice lo hi none p2) pos) (PE_ (FX X cv fn xs) W (dSl fa fl fh)) :=
  peImp (pe_slice o_sl ha hl hh) fun σ H Q q => by
    obtain ⟨m, e, h, rh, re, p⟩ := q
    refine ⟨m, e, h, rh, re, p.bind fun x h1 m1 H1 v g1 rh1 r1 p1 => ⟨m1, e, h1, rh1, g1.re re, p1.bind fun l h2 m2 H2 l' g2 rh2 r2 p2 => ⟨m2, e, h2, rh2, g2.re (g1.re re), p2.bind fun u h3 m3 H3 u' g3 rh3 r3 p3 => ?_⟩⟩⟩
    subst r2; subst r3
    exact ⟨W, σ, m3, h3, x, rh3, (g2.trans g3).rd r1, p3⟩
theorem m_rev : MtR X "list.reverse" (rM (FX X cv fn xs) mRev) := by
  intro pins s σ0 H x xs v us Q I rx rs hh
  obtain ⟨W, σ, m, h, d, ds, rh, rd, rds, p⟩ := hh
  unfold mRev at p
  split at p
  · cases rd
    cases rds
    split at p
    · rename_i e
      obtain ⟨hl, vs, q1, q2⟩ := rh.mut e
      obtain ⟨g, rh'⟩ := rh.putL e q1 q2.reverse
      exact mt_reverse pins s σ0 H _ _ v us Q I rx rs ⟨_, _, rfl, rfl, q1, p m _ _ g rh' .non⟩
    · exact p.elim
  · exact p.elim
theorem m_popAt : MtR X "list.pop" (rM (FX X cv fn xs) mPopAt) := by
  intro pins s σ0 H x xs v us Q I rx rs hh
  obtain ⟨W, σ, m, h, d, ds, rh, rd, rds, p⟩ := hh
  unfold mPopAt at p
  split at p
  · cases rd
    obtain ⟨y, rfl, ry⟩ := rds1 rds
    cases ry
    split at p
    · rename_i e
      split at p
      · rename_i hb
        split at p
        · rename_i j ej
          split at p
          · rename_i y ey
            obtain ⟨hl, vs, q1, q2⟩ := rh.mut e
            obtain ⟨w, ew, rw'⟩ := q2.get ey
            obtain ⟨g, rh'⟩ := rh.putL e q1 (q2.erase j)
            exact mt_popAt pins s σ0 H _ _ v us Q I rx rs ⟨_, _, _, j, _, rfl, rfl, q1, hb.1, hb.2, by rw [← q2.length]; exact (ixN_seq ej).1, ew, p m _ _ g rh' (g.rd rw')⟩
          · exact p.elim
        · exact p.elim
      · exact p.elim
    · exact p.elim
  · exact p.elim
theorem m_insert : MtR X "list.insert" (rM (FX X cv fn xs) mInsert) := by
  intro pins s σ0 H x xs v us Q I rx rs hh
  obtain ⟨W, σ, m, h, d, ds, rh, rd, rds, p⟩ := hh
  unfold mInsert at p
  split at p
  · cases rd
    obtain ⟨y, z, rfl, ry, rz⟩ := rds2 rds
    cases ry
    split at p
    · rename_i e
      split at p
      · rename_i hb
        obtain ⟨hl, vs, q1, q2⟩ := rh.mut e
        obtain ⟨g, rh'⟩ := rh.putL e q1 (((q2.take _).snoc rz).append (q2.drop _))
        exact mt_insert pins s σ0 H _ _ v us Q I rx rs ⟨_, _, _, _, rfl, rfl, q1, by rw [sizeLine_eq, ← q2.length]; exact hb.1, hb.2.1, hb.2.2, p m _ _ g rh' .non⟩
      · exact p.elim
    · exact p.elim
  · exact p.elim
theorem m_extend : MtR X "list.extend" (rM (FX X cv fn xs) mExtend) := by
  intro pins s σ0 H x xs v us Q I rx rs hh
  obtain ⟨W, σ, m, h, d, ds, rh, rd, rds, p⟩ := hh
  unfold mExtend at p
  split at p
  · cases rd
    obtain ⟨y, rfl, ry⟩ := rds1 rds
    cases ry
    split at p
    · rename_i e1 e2
      split at p
      · rename_i hb
        obtain ⟨_, vs, q1, q2⟩ := rh.mut e1
        obtain ⟨_, ws, q3, q4⟩ := rh.mut e2
        obtain ⟨g, rh'⟩ := rh.putL e1 q1 (q2.append q4)
        exact mt_extend pins s σ0 H _ _ v us Q I rx rs ⟨_, _, _, _, rfl, rfl, q1, q3, by rw [sizeLine_eq, ← q2.length, ← q4.length]; exact hb, p m _ _ g rh' .non⟩
      · exact p.elim
    · exact p.elim
  · exact p.elim
theorem ixF_rd {T : Fx} {m : Nat → Addr} {h : Hh} {H : Hp} {y : D} {w : V} (ry : RD T.K m h.length H y w) (fy : flatD y = true) : ∀ {ds : List D} {vs : List V} {j : Nat}, RDs T.K m h.length H ds vs → ds.all flatD = true → ixF (fun z => eqF z y) ds = some j →
    (∃ z, vs[j]? = some z ∧ eqV z w = true) ∧ ∀ (k : Nat) (z' : V), k < j → vs[k]? = some z' → eqV z' w = false
  | _, _, j, .nil, _, e => by cases e
  | _, _, j, .cons (d := d) (v := v) r rs, f, e => by
    rw [List.all_cons, Bool.and_eq_true] at f
    have k1 := eqF_rd r ry f.1 fy
    unfold ixF at e
    split at e
    · rename_i hz
      cases e
      exact ⟨⟨v, rfl, by rw [k1]; exact hz⟩, fun k z' hk => absurd hk (Nat.not_lt_zero _)⟩
    · rename_i hz
      cases q : ixF (fun z => eqF z y) _ with
      | none => rw [q] at e; cases e
      | some i =>
        rw [q] at e
        cases e
        obtain ⟨⟨z, z1, z2⟩, z3⟩ := ixF_rd ry fy rs f.2 q
        refine ⟨⟨z, by simpa using z1, z2⟩, fun k z' hk ek => ?_⟩
        cases k with
        | zero => cases ek; rw [k1]; exact Bool.eq_false_iff.mpr hz
        | succ k => exact z3 k z' (Nat.lt_of_succ_lt_succ hk) (by simpa using ek)
theorem ixP_spec (f : PyData → Bool) : ∀ {ds : List PyData} {j : Nat}, ixP f ds = some j → (∃ z, ds[j]? = some z ∧ f z = true) ∧ ∀ (k : Nat) (z' : PyData), k < j → ds[k]? = some z' → f z' = false
  | [], j, e => by cases e
  | d :: ds, j, e => by
    unfold ixP at e
    split at e
    · rename_i hz
      cases e
      exact ⟨⟨d, rfl, hz⟩, fun k z' hk => absurd hk (Nat.not_lt_zero _)⟩
    · rename_i hz
      cases q : ixP f ds with
      | none => rw [q] at e; cases e
      | some i =>
        rw [q] at e
        cases e
        obtain ⟨⟨z, z1, z2⟩, z3⟩ := ixP_spec f q
        refine ⟨⟨z, by simpa using z1, z2⟩, fun k z' hk ek => ?_⟩
        cases k with
        | zero => cases ek; exact Bool.eq_false_iff.mpr hz
        | succ k => exact z3 k z' (Nat.lt_of_succ_lt_succ hk) (by simpa using ek)
theorem m_index (hu : X.A.units + 65 < cLine) : MtR X "list.index" (rM (FX X cv fn xs) mIndex) := by
  intro pins s σ0 H x xs v us Q I rx rs hh
  obtain ⟨W, σ, m, h, d, ds, rh, rd, rds, p⟩ := hh
  unfold mIndex at p
  split at p
  · rename_i n y
    have rd0 := rd
    cases rd
    obtain ⟨w, rfl, ry⟩ := rds1 rds
    split at p
    · rename_i e
      obtain ⟨_, vs, sq, q⟩ := rh.lst e
      split at p
      · rename_i hf
        split at p
        · rename_i j ej
          obtain ⟨⟨z, z1, z2⟩, z3⟩ := ixF_rd ry hf.1 q hf.2 ej
          exact mt_index pins s σ0 H _ _ v us Q I rx rs ⟨_, vs, w, j, z, rfl, rfl, sq, flat_rd ry hf.1, flat_all q hf.2, z1, z2, z3, p.here rh (.int _)⟩
        · exact p.elim
      · split at p
        · rename_i ps pp e1 e2
          split at p
          · rename_i hs
            split at p
            · rename_i j ej
              obtain ⟨⟨z, z1, z2⟩, z3⟩ := ixP_spec _ ej
              exact mt_indexD hu pins s σ0 H _ _ v us Q I rx rs ⟨_, w, _, _, j, z, rfl, rfl, toPD_dp rh _ _ _ _ e1 rd0, toPD_dp rh _ _ _ _ e2 ry, hs.1, hs.2, z1, z2, z3, p.here rh (.int _)⟩
            · exact p.elim
          · exact p.elim
        · exact p.elim
    · exact p.elim
  · exact p.elim
theorem m_remove : MtR X "list.remove" (rM (FX X cv fn xs) mRemove) := by
  intro pins s σ0 H x xs v us Q I rx rs hh
  obtain ⟨W, σ, m, h, d, ds, rh, rd, rds, p⟩ := hh
  unfold mRemove at p
  split at p
  · cases rd
    obtain ⟨y, rfl, ry⟩ := rds1 rds
    cases ry
    split at p
    · rename_i e
      split at p
      · rename_i is ei
        split at p
        · rename_i j ej
          obtain ⟨_, vs, q1, q2⟩ := rh.mut e
          have ev := intsOf_rd q2 ei
          subst ev
          obtain ⟨hl, z1, z2⟩ := List.findIdx?_eq_some_iff_getElem.mp ej
          obtain ⟨g, rh'⟩ := rh.putL e q1 (RDs.intsD (is.eraseIdx j))
          refine mt_remove pins s σ0 H _ _ v us Q I rx rs ⟨_, is, _, j, rfl, rfl, q1, ?_, fun k hk ek => ?_, p m _ _ g rh' .non⟩
          · rw [List.getElem?_eq_getElem hl]; exact congrArg some (by simpa using z1)
          · have := z2 k hk
            rw [List.getElem?_eq_getElem (by omega)] at ek
            rw [Option.some.inj ek] at this
            simp at this
        · exact p.elim
      · exact p.elim
    · exact p.elim
  · exact p.elim
theorem m_split : MtR X "str.split" (rM (FX X cv fn xs) mSplit) := by
  intro pins s σ0 H x xs v us Q I rx rs hh
  obtain ⟨W, σ, m, h, d, ds, rh, rd, rds, p⟩ := hh
  unfold mSplit at p
  split at p
  · cases rd
    obtain ⟨y, rfl, ry⟩ := rds1 rds
    cases ry
    split at p
    · rename_i hz
      exact mt_split pins s σ0 H _ _ v us Q I rx rs ⟨_, _, rfl, rfl, hz.1, by rw [sizeLine_eq]; exact hz.2, p.new rh (RDs.strs _)⟩
    · exact p.elim
  · exact p.elim
theorem m_join : MtR X "str.join" (rM (FX X cv fn xs) mJoin) := by
  intro pins s σ0 H x xs v us Q I rx rs hh
  obtain ⟨W, σ, m, h, d, ds, rh, rd, rds, p⟩ := hh
  unfold mJoin at p
  split at p
  · cases rd
    obtain ⟨y, rfl, ry⟩ := rds1 rds
    cases ry
    split at p
    · rename_i ys e
      obtain ⟨es, e1, e2⟩ := Option.bind_eq_some_iff.mp e
      obtain ⟨_, vs, sq, q⟩ := rh.lst e1
      have ev := strsOf_rd q e2
      subst ev
      split at p
      · rename_i hz
        exact mt_join pins s σ0 H _ _ v us Q I rx rs ⟨_, _, ys, rfl, rfl, .inl sq, hz, p.here rh (.str _)⟩
      · exact p.elim
    · exact p.elim
  · exact p.elim
theorem m_rfind : MtR X "str.rfind" (rM (FX X cv fn xs) mRfind) := by
  intro pins s σ0 H x xs v us Q I rx rs hh
  obtain ⟨W, σ, m, h, d, ds, rh, rd, rds, p⟩ := hh
  unfold mRfind at p
  split at p
  · cases rd
    obtain ⟨y, rfl, ry⟩ := rds1 rds
    cases ry
    exact mt_rfind pins s σ0 H _ _ v us Q I rx rs ⟨_, _, rfl, rfl, p.here rh (.int _)⟩
  · exact p.elim
theorem m_part : MtR X "str.partition" (rM (FX X cv fn xs) mPart) := by
  intro pins s σ0 H x xs v us Q I rx rs hh
  obtain ⟨W, σ, m, h, d, ds, rh, rd, rds, p⟩ := hh
  unfold mPart at p
  split at p
  · cases rd
    obtain ⟨y, rfl, ry⟩ := rds1 rds
    cases ry
    split at p
    · rename_i hz
      exact mt_partition pins s σ0 H _ _ v us Q I rx rs ⟨_, _, rfl, rfl, hz.1, by rw [sizeLine_eq]; exact hz.2, p.newT rh (.cons (.str _) (.cons (.str _) (.cons (.str _) .nil)))⟩
    · exact p.elim
  · exact p.elim
theorem c_sorted : CallR X (.builtin "sorted") (rN (FX X cv fn xs) fSorted) := by
  intro pins s σ0 H xs us Q I r hh
  obtain ⟨W, σ, m, h, ds, rh, rx, p⟩ := hh
  unfold fSorted at p
  split at p
  · obtain ⟨v, rfl, a⟩ := rds1 rx
    cases a
    split at p
    · rename_i is e
      obtain ⟨es, e1, e2⟩ := Option.bind_eq_some_iff.mp e
      obtain ⟨_, vs, sq, q⟩ := rh.lst e1
      have ev := intsOf_rd q e2
      subst ev
      split at p
      · rename_i hz
        refine cr_sorted pins s σ0 H _ us Q I r ⟨_, is, rfl, sq, hz, fun ns' q' hp hs hq => ?_⟩
        have e : ns' = is.mergeSort (fun a b => decide (a ≤ b)) := by
          refine List.Perm.eq_of_pairwise (le := (· ≤ ·)) (fun a b _ _ h1 h2 => Int.le_antisymm h1 h2) hs ?_ (hp.trans (List.mergeSort_perm _ _).symm)
          have := List.pairwise_mergeSort (le := fun (a b : Int) => decide (a ≤ b)) (fun a b c h1 h2 => decide_eq_true (Int.le_trans (of_decide_eq_true h1) (of_decide_eq_true h2))) (fun a b => by
            rcases Int.le_total a b with h | h <;> simp [h]) is
          exact this.imp fun h => of_decide_eq_true h
        rw [e]
        exact p.new rh (RDs.intsD _) q' hq
      · exact p.elim
    · exact p.elim
  · exact p.elim
end
end Mn
namespace Mn
open PySem L2
section
variable {X : Cx} {cv : Nat → Value} {fn : Nat → Str} {xs : Xs} {W : WX} {pos : Pos} {a b c : Expr} {fa fb fc : ED} {tg tg1 : Expr}
abbrev noW : WX := fun _ _ _ _ => False
theorem s_lc2 {el it it1 : Expr} {ifs ifs1 : List Expr} {scope : Scope} {own : List (Str × Nat)} {fi fi1 : ID} {g g1 : Tg} {is is1 : List Nat} {fe : ED} {tt tt1 : TD} (hx : xs = none)
    (hio : ∀ i ∈ is, i ∈ own.map (·.2)) {σ : L2.St} {H : Hp} {Q : VK} (q : PE_ (FX X cv fn xs) W (dLc2 fi g tt fi1 g1 tt1 fe (own.map (·.2)) is1) σ H Q) :
    tLc2 (PI_ (FX X cv fn xs) W fi) (PG_ (FX X cv fn xs) is g) (PT_ (FX X cv fn xs) noW tt) (PI_ (FX X cv fn xs) noW fi1) (PG_ (FX X cv fn xs) is1 g1) (PT_ (FX X cv fn xs) noW tt1) (PE_ (FX X cv fn xs) noW fe) (own.map (·.2)) is1 σ H Q := by
  obtain ⟨m, e, h, rh, re, p⟩ := q
  refine ⟨m, e, h, rh, re, p.bind fun sq h1 m1 H1 J g01 rh1 wk p1 => ?_⟩
  intro D hD
  obtain ⟨m2, g2, rh2, rd2⟩ := rh1.newL (ds := []) (vs := []) hD .nil
  have eD : m2 h1.length = D := by
    cases rd2
    rfl
  have re2 : RE (FX X cv fn xs) m2 (h1 ++ [O.lst []]).length (upd H1 D (.lst [])) (Mn.wipe e (own.map (·.2))) (L2.wipe σ (own.map (·.2))) := (g2.re (g01.re re)).wipe hx _
  have p2 := p1.base g2
  generalize own.map (·.2) = vs at *
  refine ⟨fun i n H => n = sq.items.length - i ∧ i ≤ sq.items.length ∧ ∃ m h, RH (FX X cv fn xs) m h H ∧ Ge m2 (h1 ++ [O.lst []]) (upd H1 D (.lst [])) m h H ∧
    PO (FX X cv fn xs) W (rdR (FX X cv fn xs)) σ m h H (lc2Go sq.src g tt fi1 g1 tt1 fe (Mn.wipe e vs) is1 h1.length (sq.items.drop i) h) Q, ⟨_, rfl, Nat.zero_le _, m2, _, rh2, Ge.refl, p2⟩, ?_⟩
  rintro i n H3 ⟨rfl, hi3, m3, h3, rh3, g3, p3⟩
  have g13 := g2.trans g3
  have lt1 : h1.length < h3.length := Nat.lt_of_lt_of_le (by rw [List.length_append]; exact Nat.lt_succ_self _) g3.le
  have e3 : m3 h1.length = D := (g3.eq _ (by rw [List.length_append]; exact Nat.lt_succ_self _)).trans eD
  have wk3 := wk m3 h3 H3 rh3 g13.eq g13.le g13.tk
  by_cases hlt : i < sq.items.length
  · right
    rw [List.drop_eq_getElem_cons hlt] at p3
    unfold lc2Go at p3
    split at p3
    · rename_i hok
      obtain ⟨go, _, yl⟩ := wk3 hok
      refine ⟨go i hlt, fun H' => ∃ m h, RH (FX X cv fn xs) m h H' ∧ Ge m2 (h1 ++ [O.lst []]) (upd H1 D (.lst [])) m h H' ∧
        PO (FX X cv fn xs) W (rdR (FX X cv fn xs)) σ m h H' (lc2Go sq.src g tt fi1 g1 tt1 fe (Mn.wipe e vs) is1 h1.length (sq.items.drop (i + 1)) h) Q, fun H' w => ⟨_, by omega, rfl, hlt, w⟩, fun x H4 y => ?_⟩
      obtain ⟨d, ed, g4, rh4, rd4⟩ := yl i x H4 hlt y
      rw [List.getElem?_eq_getElem hlt] at ed
      cases ed
      have p4 := p3.base g4
      split at p4
      · rename_i e1 eg
        refine ⟨m3, h3, _, _, e1, rh4, g4.re (g3.re re2), rd4, eg, fun σ' re' but => ⟨wipe_but but hio, ?_⟩⟩
        refine ⟨m3, e1, h3, rh4, re', ?_⟩
        cases qt : tt e1 h3 with
        | stuck => rw [qt] at p4; exact p4.elim
        | exc x h5 => rw [qt] at p4; exact p4.elim
        | ok k h5 =>
          rw [qt] at p4
          intro m5 H5 b g5 rh5 eb
          subst eb
          cases k with
          | false =>
            rw [if_neg Bool.false_ne_true]
            exact ⟨m5, h5, rh5, (g3.trans g4).trans g5, PO.base (r := lc2Go sq.src g tt fi1 g1 tt1 fe (Mn.wipe e vs) is1 h1.length (sq.items.drop (i + 1)) h5) p4 g5⟩
          | true =>
            rw [if_pos rfl]
            have g35 := (g3.trans g4).trans g5
            refine ⟨m5, e1, h5, rh5, g5.re re', ?_⟩
            have p5 := PO.base (r := (noX (fi1 e1 h5)).bind fun sq2 h2 => (lcGo sq2.src g1 tt1 fe (Mn.wipe e1 is1) h1.length sq2.items h2).bind fun _ h3 => lc2Go sq.src g tt fi1 g1 tt1 fe (Mn.wipe e vs) is1 h1.length (sq.items.drop (i + 1)) h3) p4 g5
            cases qi : fi1 e1 h5 with
            | stuck => rw [qi] at p5; exact p5.elim
            | exc x h6 => rw [qi] at p5; exact p5.elim
            | ok sq2 h6 =>
              rw [qi] at p5
              intro m6 H6 J1 g6 rh6 wk6
              have p6 := PO.base (r := (lcGo sq2.src g1 tt1 fe (Mn.wipe e1 is1) h1.length sq2.items h6).bind fun _ h3 => lc2Go sq.src g tt fi1 g1 tt1 fe (Mn.wipe e vs) is1 h1.length (sq.items.drop (i + 1)) h3) p5 g6
              have g36 := g35.trans g6
              have reW : RE (FX X cv fn xs) m6 h6.length H6 (Mn.wipe e1 is1) (L2.wipe σ' is1) := (g6.re (g5.re re')).wipe hx _
              refine ⟨fun j n H => n = sq2.items.length - j ∧ j ≤ sq2.items.length ∧ ∃ m h, RH (FX X cv fn xs) m h H ∧ Ge m6 h6 H6 m h H ∧
                PO (FX X cv fn xs) W (rdR (FX X cv fn xs)) σ m h H ((lcGo sq2.src g1 tt1 fe (Mn.wipe e1 is1) h1.length (sq2.items.drop j) h).bind fun _ h3 => lc2Go sq.src g tt fi1 g1 tt1 fe (Mn.wipe e vs) is1 h1.length (sq.items.drop (i + 1)) h3) Q, ⟨_, rfl, Nat.zero_le _, m6, h6, rh6, Ge.refl, p6⟩, ?_⟩
              rintro j n H7 ⟨rfl, hj7, m7, h7, rh7, g7, p7⟩
              have lt7 : h1.length < h7.length := Nat.lt_of_lt_of_le lt1 (Nat.le_trans (Nat.le_trans g5.le g6.le) g7.le)
              have e7 : m7 h1.length = D := (g7.eq _ (Nat.lt_of_lt_of_le lt1 (Nat.le_trans g5.le g6.le))).trans ((g6.eq _ (Nat.lt_of_lt_of_le lt1 g5.le)).trans ((g5.eq _ lt1).trans e3))
              have wk7 := wk6 m7 h7 H7 rh7 g7.eq g7.le g7.tk
              by_cases hlj : j < sq2.items.length
              · right
                rw [List.drop_eq_getElem_cons hlj] at p7
                unfold lcGo at p7
                split at p7
                · rename_i hok1
                  obtain ⟨go1, _, yl1⟩ := wk7 hok1
                  refine ⟨go1 j hlj, fun H' => ∃ m h, RH (FX X cv fn xs) m h H' ∧ Ge m6 h6 H6 m h H' ∧
                    PO (FX X cv fn xs) W (rdR (FX X cv fn xs)) σ m h H' ((lcGo sq2.src g1 tt1 fe (Mn.wipe e1 is1) h1.length (sq2.items.drop (j + 1)) h).bind fun _ h3 => lc2Go sq.src g tt fi1 g1 tt1 fe (Mn.wipe e vs) is1 h1.length (sq.items.drop (i + 1)) h3) Q, fun H' w => ⟨_, by omega, rfl, hlj, w⟩, fun x2 H8 y2 => ?_⟩
                  obtain ⟨d2, ed2, g8, rh8, rd8⟩ := yl1 j x2 H8 hlj y2
                  rw [List.getElem?_eq_getElem hlj] at ed2
                  cases ed2
                  have p8 := p7.base g8
                  split at p8
                  · rename_i e9 eg9
                    refine ⟨m7, h7, _, _, e9, rh8, g8.re (g7.re reW), rd8, eg9, fun σ9 re9 but9 => ⟨wipe_but but9 (fun _ z => z), ?_⟩⟩
                    refine ⟨m7, e9, h7, rh8, re9, ?_⟩
                    cases qt2 : tt1 e9 h7 with
                    | stuck => rw [qt2] at p8; exact p8.elim
                    | exc x h5 => rw [qt2] at p8; exact p8.elim
                    | ok k2 h9 =>
                      rw [qt2] at p8
                      intro m9 H9 b9 g9 rh9 eb9
                      subst eb9
                      cases k2 with
                      | false =>
                        rw [if_neg Bool.false_ne_true]
                        exact ⟨m9, h9, rh9, (g7.trans g8).trans g9, PO.base (r := (lcGo sq2.src g1 tt1 fe (Mn.wipe e1 is1) h1.length (sq2.items.drop (j + 1)) h9).bind fun _ h3 => lc2Go sq.src g tt fi1 g1 tt1 fe (Mn.wipe e vs) is1 h1.length (sq.items.drop (i + 1)) h3) p8 g9⟩
                      | true =>
                        rw [if_pos rfl]
                        refine ⟨m9, e9, h9, rh9, g9.re re9, ?_⟩
                        cases qe : fe e9 h9 with
                        | stuck => simp only [qe] at p8; exact p8.elim
                        | exc x h5 => simp only [qe] at p8; exact p8.elim
                        | ok y10 h10 =>
                          simp only [qe] at p8
                          intro m10 H10 yv g10 rh10 ry
                          split at p8
                          · rename_i acc ea
                            split at p8
                            · rename_i hz
                              obtain ⟨hn, ws, q1, q2⟩ := rh10.mut ea
                              have e10 : m10 h1.length = D := (g10.eq _ (Nat.lt_of_lt_of_le lt7 g9.le)).trans ((g9.eq _ lt7).trans e7)
                              obtain ⟨g11, rh11⟩ := rh10.putL ea q1 (q2.snoc ry)
                              have g16 := (((g7.trans g8).trans g9).trans g10).trans g11
                              refine ⟨ws, by rw [← e10]; exact q1, by rw [sizeLine_eq, ← q2.length]; exact hz, m10, h10.set h1.length (.lst (acc ++ [y10])), ?_, ?_, ?_⟩
                              · rw [← e10]; exact rh11
                              · rw [e10] at g16; exact g16
                              · rw [← e10]
                                exact PO.base (r := (lcGo sq2.src g1 tt1 fe (Mn.wipe e1 is1) h1.length (sq2.items.drop (j + 1)) (h10.set h1.length (.lst (acc ++ [y10])))).bind fun _ h3 => lc2Go sq.src g tt fi1 g1 tt1 fe (Mn.wipe e vs) is1 h1.length (sq.items.drop (i + 1)) h3) p8 ((g9.trans g10).trans g11)
                            · exact p8.elim
                          · exact p8.elim
                  · exact p8.elim
                · exact p7.elim
              · have ej : j = sq2.items.length := by omega
                subst ej
                left
                rw [List.drop_length] at p7
                unfold lcGo at p7
                split at p7
                · rename_i hok1
                  obtain ⟨_, st1, _⟩ := wk7 hok1
                  exact ⟨st1, m7, h7, rh7, g36.trans g7, p7⟩
                · exact p7.elim
      · exact p4.elim
    · exact p3.elim
  · have ei : i = sq.items.length := by omega
    subst ei
    left
    rw [List.drop_length] at p3
    unfold lc2Go at p3
    split at p3
    · rename_i hok
      obtain ⟨_, st, _⟩ := wk3 hok
      refine ⟨st, ?_⟩
      have r := RD.ref (K := X.K) (m := m3) (H := H3) lt1
      rw [e3] at r
      exact p3.here rh3 r
    · exact p3.elim
theorem s_par {i j : Nat} {x y : Str} {px py pt : Pos} {kt k2 : Nat} {pt2 : Pos} (hx0 : xs = none) (hc : X.calm = true) (hN : X.N.Nodup) (hi : X.N[i]? = some x) (hj : X.N[j]? = some y) (hij : i ≠ j)
    (hx : X.env.scope.names.lookup x = some .local) (hy : X.env.scope.names.lookup y = some .local) (ha : PE X a (PE_ (FX X cv fn xs) W fa)) (hb : PE X b (PE_ (FX X cv fn xs) W fb))
    (hab : starEach [a, b] X.env = (false, eval a X.env) :: starEach [b] X.env) (hb1 : starEach [b] X.env = (false, eval b X.env) :: starEach [] X.env)
    (hw : swappedStores [.Tuple [.Name x px, .Name y py] kt pt] (.Tuple [a, b] k2 pt2) X.env = pure (some [x, y])) :
    PS X (.Assign [.Tuple [.Name x px, .Name y py] kt pt] (.Tuple [a, b] k2 pt2) pos) (PS_ (FX X cv fn xs) W (sPar i j fa fb)) :=
  psImp (ps_par hc hN hi hj hij hx hy (pa_cons ha (pa_cons hb pa_nil hb1) hab) hw) fun D σ H q => by
    obtain ⟨m, e, h, rh, re, p⟩ := q
    refine ⟨m, e, h, rh, re, PO.toS re p fun v h1 m1 H1 v1 g1 rh1 r1 p1 => ⟨m1, e, h1, rh1, g1.re re, PO.toS (g1.re re) p1 fun w h2 m2 H2 w1 g2 rh2 r2 p2 => ?_⟩⟩
    have nx : ∀ k, Nx (FX X cv fn xs) k := fun k j a h => by rw [show xs = some (j, a) from h] at hx0; cases hx0
    exact ⟨v1, w1, rfl, p2 m2 H2 _ Ge.refl rh2 (((g2.re (g1.re re)).set i (nx i) (g2.rd r1)).set j (nx j) r2)⟩
theorem o_get : PGet X (r2 (FX X cv fn xs) getL) := by
  intro pins s σ0 H o i ov iv Q I ro ri hh
  obtain ⟨W, σ, m, h, d1, d2, rh, ra, rb, p⟩ := hh
  unfold getL at p
  split at p
  · cases ra
    cases rb
    split at p
    · rename_i e
      split at p
      · rename_i hb
        split at p
        · rename_i d ed
          obtain ⟨_, vs, sq, r⟩ := rh.lst e
          obtain ⟨w, ew, rw'⟩ := r.get ed
          cases ro
          obtain ⟨t, rfl⟩ := ri
          obtain ⟨its, rv, pl, hz⟩ := I.list sq
          obtain ⟨u, eu, ru⟩ := rv.get ew
          exact wpAny_getItem_list pl.isList hb.1 hb.2 (by simpa using eu) ⟨w, H, I, ru, p.here rh rw'⟩
        · exact p.elim
      · exact p.elim
    · exact p.elim
  · exact p.elim
theorem s_augI {op : Operator} {io : D → D → Hh → R D} {tpos : Pos} (hp : PIp X op (r2 (FX X cv fn xs) io)) (ha : PE X a (PE_ (FX X cv fn xs) W fa)) (hb : PE X b (PE_ (FX X cv fn xs) W fb)) (hc : PE X c (PE_ (FX X cv fn xs) W fc))
    (hs : ∀ ov iv new, augStore b ov iv new = (do holding [new, ov, iv] (setItem ov iv new); release [new, ov, iv] []; pure .next)) : PS X (.AugAssign (.Subscript a b tpos) op c pos) (PS_ (FX X cv fn xs) W (sAugI io fa fb fc)) :=
  psImp (ps_augS ha hb o_get hc hp o_set hs) fun D σ H q => by
    obtain ⟨m, e, h, rh, re, p⟩ := q
    refine ⟨m, e, h, rh, re, PO.toS re p fun o h1 m1 H1 o1 g1 rh1 ro p1 => ⟨m1, e, h1, rh1, g1.re re, PO.toS (g1.re re) p1 fun k h2 m2 H2 k1 g2 rh2 rk p2 => ?_⟩⟩
    have re2 := g2.re (g1.re re)
    refine ⟨W, σ, m2, h2, o, k, rh2, g2.rd ro, rk, PO.toS re2 p2 fun v h3 m3 H3 v1 g3 rh3 rv p3 => ⟨m3, e, h3, rh3, g3.re re2, PO.toS (g3.re re2) p3 fun w h4 m4 H4 w1 g4 rh4 rw' p4 => ?_⟩⟩
    have re4 := g4.re (g3.re re2)
    refine ⟨W, σ, m4, h4, v, w, rh4, g4.rd rv, rw', PO.toS re4 p4 fun z h5 m5 H5 z1 g5 rh5 rz p5 => ?_⟩
    have g25 := (g3.trans g4).trans g5
    refine ⟨W, σ, m5, h5, o, k, z, rh5, g25.rd (g2.rd ro), g25.rd rk, rz, PO.toS (g5.re re4) p5 fun _ h6 m6 H6 _ g6 rh6 _ p6 => ?_⟩
    exact p6 m6 H6 σ Ge.refl rh6 (g6.re (g5.re re4))
end
end Mn
namespace Mn
open PySem L2
theorem fnames_nd : fnames.Nodup := by decide +kernel
theorem nd_inj {α : Type} {l : List α} (nd : l.Nodup) {i j : Nat} (hi : i < l.length) (hj : j < l.length) (e : l[i] = l[j]) : i = j := by
  have p := List.pairwise_iff_getElem.mp nd
  rcases Nat.lt_trichotomy i j with h | h | h
  · exact absurd e (p i j hi hj h)
  · exact h
  · exact absurd e.symm (p j i hj hi h)
theorem fnm_inj {i j : Nat} (hi : i < fnames.length) (hj : j < fnames.length) (e : fnm i = fnm j) : i = j := by
  unfold fnm at e
  rw [List.getD_eq_getElem?_getD, List.getD_eq_getElem?_getD, List.getElem?_eq_getElem hi, List.getElem?_eq_getElem hj] at e
  exact nd_inj fnames_nd hi hj e
theorem fn_ne : fnames.all (fun s => !(s == ("" : Str))) = true := by decide +kernel
theorem fnm_inj1 {i g : Nat} (hi : i < fnames.length) (e : fnm i = fnm g) : i = g := by
  by_cases hg : g < fnames.length
  · exact fnm_inj hi hg e
  · exfalso
    unfold fnm at e
    rw [List.getD_eq_getElem?_getD, List.getD_eq_getElem?_getD, List.getElem?_eq_getElem hi, List.getElem?_eq_none (by omega)] at e
    have h := List.all_eq_true.mp fn_ne _ (List.getElem_mem hi)
    rw [show fnames[i] = ("" : Str) from e] at h
    simp at h
abbrev PF (K : PySem.W.Frag) (m : Nat → Addr) (N : Nat) (H : Hp) : Nat × D → Str × V → Prop := fun p q => q.1 = fnm p.1 ∧ RD K m N H p.2 q.2
section
variable {K : PySem.W.Frag} {m : Nat → Addr} {N : Nat} {H : Hp}
theorem look_mem {α : Type} {i : Nat} {d : α} : ∀ {fs : List (Nat × α)}, fs.lookup i = some d → (i, d) ∈ fs
  | [], h => by cases h
  | (g, x) :: r, h => by
    rw [List.lookup_cons] at h
    cases hb : i == g with
    | true =>
      rw [hb] at h
      cases h
      have : i = g := by simpa using hb
      subst this
      exact .head _
    | false =>
      rw [hb] at h
      exact .tail _ (look_mem h)
theorem look_rd {i : Nat} {d : D} : ∀ {fs : List (Nat × D)} {vs : List (Str × V)}, Paired (PF K m N H) fs vs → (∀ p ∈ fs, p.1 < fnames.length) → fs.lookup i = some d → ∃ v, vs.lookup (fnm i) = some v ∧ RD K m N H d v
  | [], _, .nil, _, h => by cases h
  | (g, x) :: r, (s, y) :: vs, .cons a b, hk, h => by
    obtain ⟨a1, a2⟩ := a
    dsimp only at a1 a2
    subst a1
    have hm := hk _ (List.mem_cons_self ..)
    have hi : i < fnames.length := hk _ (look_mem h)
    rw [List.lookup_cons] at h
    rw [List.lookup_cons]
    cases hb : i == g with
    | true =>
      rw [hb] at h
      cases h
      have e : i = g := by simpa using hb
      subst e
      rw [beq_self_eq_true]
      exact ⟨y, rfl, a2⟩
    | false =>
      rw [hb] at h
      have ne : i ≠ g := by simpa using hb
      have e2 : (fnm i == fnm g) = false := by
        refine beq_eq_false_iff_ne.mpr fun z => ne (fnm_inj hi hm z)
      rw [e2]
      exact look_rd b (fun p hp => hk p (.tail _ hp)) h
theorem look_rdX {i : Nat} {d : D} (hi : i < fnames.length) : ∀ {fs : List (Nat × D)} {vs : List (Str × V)}, Paired (PF K m N H) fs vs → fs.lookup i = some d → ∃ v, vs.lookup (fnm i) = some v ∧ RD K m N H d v
  | [], _, .nil, h => by cases h
  | (g, x) :: r, (s, y) :: vs, .cons a b, h => by
    obtain ⟨a1, a2⟩ := a
    dsimp only at a1 a2
    subst a1
    rw [List.lookup_cons] at h
    rw [List.lookup_cons]
    cases hb : i == g with
    | true =>
      rw [hb] at h
      cases h
      have e : i = g := by simpa using hb
      subst e
      rw [beq_self_eq_true]
      exact ⟨y, rfl, a2⟩
    | false =>
      rw [hb] at h
      have ne : i ≠ g := by simpa using hb
      rw [beq_eq_false_iff_ne.mpr fun z => ne (fnm_inj1 hi z)]
      exact look_rdX hi b h
theorem put_rd {i : Nat} {d : D} {v : V} (hi : i < fnames.length) (r : RD K m N H d v) : ∀ {fs : List (Nat × D)} {vs : List (Str × V)}, Paired (PF K m N H) fs vs → (∀ p ∈ fs, p.1 < fnames.length) → Paired (PF K m N H) (putA i d fs) (putF (fnm i) v vs)
  | [], _, .nil, _ => .cons ⟨rfl, r⟩ .nil
  | (g, x) :: fs, (s, y) :: vs, .cons a b, hk => by
    obtain ⟨a1, a2⟩ := a
    dsimp only at a1 a2
    subst a1
    have hm := hk _ (List.mem_cons_self ..)
    unfold putA putF
    by_cases e : g = i
    · subst e
      rw [if_pos rfl, if_pos rfl]
      exact .cons ⟨rfl, r⟩ b
    · rw [if_neg e, if_neg fun z => e (fnm_inj hm hi z)]
      exact .cons ⟨rfl, a2⟩ (put_rd hi r b fun p hp => hk p (.tail _ hp))
theorem put_mem {i : Nat} {d : D} {p : Nat × D} : ∀ {fs : List (Nat × D)}, p ∈ putA i d fs → p.1 = i ∨ p ∈ fs
  | [], h => by cases List.mem_singleton.mp h; exact .inl rfl
  | (g, x) :: fs, h => by
    unfold putA at h
    by_cases e : g = i
    · rw [if_pos e] at h
      rcases List.mem_cons.mp h with h | h
      · subst h; exact .inl e
      · exact .inr (.tail _ h)
    · rw [if_neg e] at h
      rcases List.mem_cons.mp h with h | h
      · subst h; exact .inr (.head _)
      · rcases put_mem h with h | h
        · exact .inl h
        · exact .inr (.tail _ h)
theorem look_no {mm : Str} : ∀ {fs : List (Nat × D)} {vs : List (Str × V)}, Paired (PF K m N H) fs vs → (∀ p ∈ fs, fnm p.1 ≠ mm) → vs.lookup mm = none
  | [], _, .nil, _ => rfl
  | (g, x) :: fs, (s, y) :: vs, .cons a b, hk => by
    obtain ⟨a1, a2⟩ := a
    dsimp only at a1 a2
    subst a1
    rw [List.lookup_cons, beq_eq_false_iff_ne.mpr (Ne.symm (hk _ (List.mem_cons_self ..)))]
    exact look_no b fun p hp => hk p (.tail _ hp)
theorem pf_len : ∀ {fs : List (Nat × D)} {vs : List (Str × V)}, Paired (PF K m N H) fs vs → fs.length = vs.length
  | _, _, .nil => rfl
  | _, _, .cons _ r => congrArg Nat.succ (pf_len r)
end
section
variable {T : Fx} {W : WX}
theorem insAt_of {h : Hh} {x : D} {c : Nat} {fs : List (Nat × D)} (e : insAt h x = some (c, fs)) : ∃ n, x = .ref n ∧ h[n]? = some (.ins c fs) := by
  unfold insAt at e
  split at e
  · rename_i n
    split at e
    · rename_i c' fs' h1
      cases e
      exact ⟨n, rfl, h1⟩
    · cases e
  · cases e
theorem insAt_eq {h : Hh} {n c : Nat} {fs : List (Nat × D)} (e : h[n]? = some (.ins c fs)) : insAt h (.ref n) = some (c, fs) := by
  simp only [insAt, e]
theorem RH.putI {m : Nat → Addr} {h : Hh} {H : Hp} {n c : Nat} {C dx : Addr} {fs fs' : List (Nat × D)} {ws vs' : List (Str × V)} (r : RH T m h H) (hn : h[n]? = some (.ins c fs)) (hC : T.cv c = .ref C) (hw : H (m n) = some (.ins C dx ws)) (q : Paired (PF T.K m h.length H) fs' vs')
    (k : Cls T.K C) (z : ∀ p ∈ fs', p.1 < fnames.length ∧ NoAttr T.K C (fnm p.1)) : Ge m h H m (h.set n (.ins c fs')) (upd H (m n) (.ins C dx vs')) ∧ RH T m (h.set n (.ins c fs')) (upd H (m n) (.ins C dx vs')) :=
  r.put hn rfl rfl hw (fun _ z => by cases z) (fun _ _ z => by cases z) (fun _ z => by cases z) (fun _ _ z => by cases z)
    ⟨C, dx, vs', hC, upd_same, Paired.mapP q fun _ _ z => ⟨z.1, z.2.mono (TK.set hw (fun _ z => by cases z) (fun _ _ z => by cases z) (fun _ z => by cases z) (fun _ _ z => by cases z)) (fun _ _ => rfl) (Nat.le_refl _)⟩, k, z⟩
end
section
variable {X : Cx} {cv : Nat → Value} {fn : Nat → Str} {xs : Xs} {W : WX} {pos : Pos} {a b c o : Expr} {fa fb fo : ED}
theorem fld_rd {σ : L2.St} {m : Nat → Addr} {h : Hh} {H : Hp} {f : Nat} {d : D} {x : V} {Q : VK} (rh : RH (FX X cv fn xs) m h H) (rx : RD X.K m h.length H d x) (p : PO (FX X cv fn xs) W (rdR (FX X cv fn xs)) σ m h H (fldD f d h) Q) :
    ∃ a C dx fs v, x = .ref a ∧ H a = some (.ins C dx fs) ∧ Cls X.K C ∧ NoAttr X.K C (fnm f) ∧ fs.lookup (fnm f) = some v ∧ Q v H := by
  unfold fldD at p
  split at p
  · rename_i c fs e
    obtain ⟨n, rfl, hn⟩ := insAt_of e
    cases rx
    split at p
    · rename_i dv ed
      obtain ⟨C, dx, vs, hC, hw, pf, k, z⟩ := rh.obj n _ hn
      obtain ⟨v, e1, r1⟩ := look_rd pf (fun p hp => (z p hp).1) ed
      exact ⟨_, C, dx, vs, v, rfl, hw, k, (z _ (look_mem ed)).2, e1, p.here rh r1⟩
    · exact p.elim
  · exact p.elim
theorem s_fld {f : Nat} (ho : PE X o (PE_ (FX X cv fn xs) W fo)) (hb : attributeBase o (fnm f) X.env (eval o X.env) = eval o X.env) : PE X (.Attribute o (fnm f) pos) (PE_ (FX X cv fn xs) W (dFld f fo)) :=
  peImp (pe_fld ho hb) fun σ H Q q => by
    obtain ⟨m, e, h, rh, re, p⟩ := q
    exact ⟨m, e, h, rh, re, p.bind fun x h1 m1 H1 xv g1 rh1 rx p1 => fld_rd rh1 rx p1⟩
def NaOk (K : PySem.W.Frag) (cv : Nat → Value) (na : Nat → List Nat) : Prop := ∀ c f, (na c).elem f = true → ∀ C, cv c = .ref C → NoAttr K C (fnm f)
theorem putD_of {na : Nat → List Nat} {f : Nat} {d v : D} {h : Hh} {m : Nat → Addr} {H : Hp} {x y : V} (hna : NaOk X.K cv na) (hf : f < fnames.length) (rh : RH (FX X cv fn xs) m h H) (rx : RD X.K m h.length H d x) (ry : RD X.K m h.length H v y)
    {r : R Unit} (e : putD na f d v h = r) (ns : r ≠ .stuck) : ∃ n c fs C dx ws, d = .ref n ∧ x = .ref (m n) ∧ h[n]? = some (.ins c fs) ∧ cv c = .ref C ∧ H (m n) = some (.ins C dx ws) ∧ Cls X.K C ∧ NoAttr X.K C (fnm f) ∧ ws.length < 1000 ∧
      r = .ok () (h.set n (.ins c (putA f v fs))) ∧ Ge m h H m (h.set n (.ins c (putA f v fs))) (upd H (m n) (.ins C dx (putF (fnm f) y ws))) ∧ RH (FX X cv fn xs) m (h.set n (.ins c (putA f v fs))) (upd H (m n) (.ins C dx (putF (fnm f) y ws))) := by
  unfold putD at e
  split at e
  · rename_i n
    split at e
    · rename_i c fs hn
      split at e
      · rename_i hc
        cases rx
        obtain ⟨C, dx, vs, hC, hw, pf, k, z⟩ := rh.obj n _ hn
        have nf := hna c f hc.1 C hC
        have hl := pf_len pf
        obtain ⟨g, rh'⟩ := rh.putI hn hC hw (put_rd hf ry pf fun p hp => (z p hp).1) k fun p hp => by
          rcases put_mem hp with e1 | hp
          · rw [e1]; exact ⟨hf, nf⟩
          · exact z p hp
        exact ⟨n, c, fs, C, dx, vs, rfl, rfl, hn, hC, hw, k, nf, by omega, e.symm, g, rh'⟩
      · exact absurd e.symm ns
    · exact absurd e.symm ns
  · exact absurd e.symm ns
theorem toS_ok {α : Type} {σ : L2.St} {D : Ends} {e : Ev} {m : Nat → Addr} {h : Hh} {H : Hp} {r : R α} {f : α → Hh → RS} (p : PSo (FX X cv fn xs) W D m h H (r.toS e f)) : r ≠ .stuck := fun z => by rw [z] at p; exact p
theorem s_fl {na : Nat → List Nat} {f : Nat} {p' : Pos} (hna : NaOk X.K cv na) (hf : f < fnames.length) (ho : PE X o (PE_ (FX X cv fn xs) W fo)) (ha : PE X a (PE_ (FX X cv fn xs) W fa)) (hs : swapsWith a (some (.Attribute o (fnm f) p')) pos.line X.env = pure false) :
    PS X (.Assign [.Attribute o (fnm f) p'] a pos) (PS_ (FX X cv fn xs) W (sFl na f fo fa)) :=
  psImp (ps_fld ho ha hs) fun D σ H q => by
    obtain ⟨m, e, h, rh, re, p⟩ := q
    refine ⟨m, e, h, rh, re, PO.toS re p fun v h1 m1 H1 y g1 rh1 ry p1 => ⟨m1, e, h1, rh1, g1.re re, PO.toS (g1.re re) p1 fun x h2 m2 H2 xv g2 rh2 rx p2 => ?_⟩⟩
    obtain ⟨n, c, fs, C, dx, ws, rfl, rfl, hn, hC, hw, k, nf, hl, er, g3, rh3⟩ := putD_of (y := y) hna hf rh2 rx (g2.rd ry) rfl (toS_ok (σ := σ) p2)
    rw [er] at p2
    exact ⟨_, C, dx, ws, rfl, hw, k, nf, hl, p2 m2 _ σ g3 rh3 (g3.re (g2.re (g1.re re)))⟩
theorem s_augF {na : Nat → List Nat} {f : Nat} {op : Operator} {io : D → D → Hh → R D} {p' : Pos} (hna : NaOk X.K cv na) (hf : f < fnames.length) (ho : PE X o (PE_ (FX X cv fn xs) W fo)) (ha : PE X a (PE_ (FX X cv fn xs) W fa)) (hop : PIp X op (r2 (FX X cv fn xs) io)) :
    PS X (.AugAssign (.Attribute o (fnm f) p') op a pos) (PS_ (FX X cv fn xs) W (sAugF na f io fo fa)) :=
  psImp (ps_fldaug ho ha (rd := r2 (FX X cv fn xs) io) fun pins s σ H x y u v Q I rx ry q => hop pins s σ H x y u v Q I rx ry q) fun D σ H q => by
    obtain ⟨m, e, h, rh, re, p⟩ := q
    refine ⟨m, e, h, rh, re, PO.toS re p fun x h1 m1 H1 xv g1 rh1 rx p1 => ?_⟩
    unfold fldD at p1
    split at p1
    · rename_i c fs e0
      obtain ⟨n, rfl, hn⟩ := insAt_of e0
      cases rx
      split at p1
      · rename_i dv ed
        obtain ⟨C, dx, vs, hC, hw, pf, k, z⟩ := rh1.obj n _ hn
        obtain ⟨v, e1, r1⟩ := look_rd pf (fun p hp => (z p hp).1) ed
        refine ⟨_, C, dx, vs, v, rfl, hw, k, (z _ (look_mem ed)).2, e1, m1, e, h1, rh1, g1.re re, ?_⟩
        refine PO.toS (r := fa e h1) (f := fun w h3 => (io dv w h3).toS e fun z h4 => if (insAt h4 (.ref n)).map (·.1) = (insAt h1 (.ref n)).map (·.1) then (putD na f (.ref n) z h4).toS e fun _ h5 => .go .nx e h5 else .stuck) (g1.re re) p1 fun w h3 m3 H3 y g3 rh3 ry p3 => ?_
        refine ⟨W, σ, m3, h3, dv, w, rh3, g3.rd r1, ry, PO.toS (r := io dv w h3) (f := fun z h4 => if (insAt h4 (.ref n)).map (·.1) = (insAt h1 (.ref n)).map (·.1) then (putD na f (.ref n) z h4).toS e fun _ h5 => .go .nx e h5 else .stuck) (g3.re (g1.re re)) p3 fun z4 h4 m4 H4 zv g4 rh4 rz p4 => ?_⟩
        split at p4
        · rename_i hcls
          obtain ⟨n', c', fs', C', dx', ws', en, ex, hn', hC', hw', k', nf', hl', er, g5, rh5⟩ := putD_of (y := zv) hna hf rh4 (g4.rd (g3.rd (RD.ref (K := X.K) (m := m1) (H := H1) (List.getElem?_eq_some_iff.mp hn).1))) rz rfl (toS_ok (σ := σ) p4)
          cases en
          rw [er] at p4
          have ec : c' = c := by
            have e4 : insAt h4 (.ref n) = some (c', fs') := insAt_eq hn'
            rw [e0, e4] at hcls
            exact Option.some.inj hcls
          subst ec
          have eC : C' = C := by have z := hC.symm.trans hC'; cases z; rfl
          subst eC
          have em : m4 n = m1 n := V.ref.inj ex.symm
          rw [em] at hw' g5 rh5
          exact ⟨dx', ws', hw', hl', p4 m4 _ σ g5 rh5 (g5.re (g4.re (g3.re (g1.re re))))⟩
        · exact p4.elim
      · exact p1.elim
    · exact p1.elim
end
end Mn
namespace Mn
open PySem L2
section
variable {T : Fx} {W : WX}
theorem PO.bindE {α β γ δ : Type} {RA : (Nat → Addr) → Nat → Hp → α → β → Prop} {RB : (Nat → Addr) → Nat → Hp → γ → δ → Prop} {σ : L2.St} {m : Nat → Addr} {h : Hh} {H : Hp} {r : R α} {f : α → Hh → R γ} {Q : δ → Hp → Prop} {Q1 : β → Hp → Prop}
    (p : PO T W RB σ m h H (r.bind f) Q) (k : ∀ a h' m' H' b, r = .ok a h' → Ge m h H m' h' H' → RH T m' h' H' → RA m' h'.length H' a b → PO T W RB σ m' h' H' (f a h') Q → Q1 b H') : PO T W RA σ m h H r Q1 := by
  cases r with
  | ok a h' => exact fun m' H' b g rh ra => k a h' m' H' b rfl g rh ra (PO.base (r := f a h') p g)
  | exc x h' => exact p
  | stuck => exact p
theorem PO.call {α β : Type} {RA : (Nat → Addr) → Nat → Hp → α → β → Prop} {σ : L2.St} {m : Nat → Addr} {h : Hh} {H : Hp} {r : R α} {Q : β → Hp → Prop} (p : PO T W RA σ m h H r Q) : PO T (fun c d _ H => WE W σ c d H) RA [] m h H r Q := by
  cases r with
  | ok a h' => exact p
  | exc x h' => exact p
  | stuck => exact p
end
section
variable {X : Cx} {cv : Nat → Value} {fn : Nat → Str} {W : WX} {pos : Pos}
structure MtOk (X : Cx) (cv : Nat → Value) (fn : Nat → Str) (mm : Str) (nw c : Nat) (f : FD) : Prop where
  ex : ∃ (C g : Addr) (k : Nat) (fd : FuncData) (ps : List Str) (gT : FD) (dds : List D) (dvs : List V) (ws : List Value), cv c = .ref C ∧ Meth X.K C mm g ∧ FnOk X.prog X.w X.K X.mg X.base (L2N.CX X.prog X.w) k g fd ps (spT (FX X cv fn none) ps.length gT) ∧ Room k X.A ∧
    Binds X.K fd ps ws ∧ Vals dvs ws ∧ (∀ m N H, RDs X.K m N H dds dvs) ∧ (nw + 1) + dvs.length = ps.length ∧ f = fun ds => gT (ds ++ dds)
theorem meth_ne {m : Nat → Addr} {N : Nat} {H : Hp} {C g : Addr} {mm : Str} {fs : List (Nat × D)} {vs : List (Str × V)} (pf : Paired (PF X.K m N H) fs vs) (z : ∀ p ∈ fs, p.1 < fnames.length ∧ NoAttr X.K C (fnm p.1)) (M : Meth X.K C mm g) : vs.lookup mm = none :=
  look_no pf fun p hp e => by
    have h := (z p hp).2
    unfold NoAttr at h
    rw [e, M.at_] at h
    cases h
theorem s_meth {oe : Expr} {mm : Str} {es : List Expr} {apos : Pos} {ms : List (Nat × FD)} {fo : ED} {as : AD} (ho : PE X oe (PE_ (FX X cv fn none) W fo)) (ha : PA X es (PA_ (FX X cv fn none) W as)) (tk : L2N.Takes X W)
    (hlen : ∀ e h ds h', as e h = .ok ds h' → ds.length = es.length) (hnil : es = [] → as = aN) (hms : ∀ c f, ms.lookup c = some f → MtOk X cv fn mm es.length c f)
    (hst : ∀ e r, es = e :: r → starEach (e :: r) X.env = (false, eval e X.env) :: starEach r X.env ∧ (backTo pos (starEach r X.env)).any (·.1) = false)
    (ht : eval (.Call (.Attribute oe mm apos) es [] pos) X.env = (do
      let ov ← eval oe X.env
      standAt apos.atName
      let (f, first) ← holding [ov] (getMethod ov mm (plainOf oe X.env))
      callWith pos f first (backTo pos (starEach es X.env)) (backToKw pos (keywordEach [] X.env)))) :
    PE X (.Call (.Attribute oe mm apos) es [] pos) (PE_ (FX X cv fn none) W (dMe ms fo as)) := by
  refine ⟨fun pins s σ H Q I hq => ?_⟩
  obtain ⟨m, e, h, rh, re, p⟩ := hq
  have pre : PE_ (FX X cv fn none) W fo σ H fun x H1 => ∃ (C g a dx : Addr) (vf : List (Str × V)) (k : Nat) (fd : FuncData) (ps : List Str) (gT : FD) (dvs : List V) (ws : List Value), x = .ref a ∧ H1 a = some (.ins C dx vf) ∧ Cls X.K C ∧ Meth X.K C mm g ∧ vf.lookup mm = none ∧
      FnOk X.prog X.w X.K X.mg X.base (L2N.CX X.prog X.w) k g fd ps (spT (FX X cv fn none) ps.length gT) ∧ Room k X.A ∧ Binds X.K fd ps ws ∧ Vals dvs ws ∧
      PA_ (FX X cv fn none) W as σ H1 fun vs H2 => spT (FX X cv fn none) ps.length gT ((.ref a :: vs) ++ dvs) H2 Q (WE W σ) := by
    refine ⟨m, e, h, rh, re, p.bind fun x h1 m1 H1 xv g1 rh1 rx p1 => ?_⟩
    split at p1
    · rename_i c fs e0
      obtain ⟨n, rfl, hn⟩ := insAt_of e0
      split at p1
      · rename_i f ef
        obtain ⟨C, g, k, fd, ps, gT, dds, dvs, ws, hC, M, F, hr, hb, hd, hdd, hl, rfl⟩ := (hms c f ef).ex
        obtain ⟨C', dx, vs, hC', hw, pf, cl, z⟩ := rh1.obj n _ hn
        have eC : C' = C := by have z := hC.symm.trans hC'; cases z; rfl
        subst eC
        have rx0 := rx
        cases rx
        refine ⟨C', g, _, dx, vs, k, fd, ps, gT, dvs, ws, rfl, hw, cl, M, meth_ne pf z M, F, hr, hb, hd, m1, e, h1, rh1, g1.re re, p1.bindE fun ds h2 m2 H2 us eq g2 rh2 r2 p2 => ?_⟩
        refine ⟨?_, m2, h2, (.ref n :: ds) ++ dds, rh2, (RDs.cons (g2.rd rx0) r2).append (hdd _ _ _), p2.call⟩
        rw [List.length_append, List.length_cons, ← r2.length, hlen _ _ _ _ eq]
        exact hl
      · exact p1.elim
    · exact p1.elim
  refine PySem.W.methodCall_KW (pl := plainOf oe X.env) (thn (ho.run pins s σ H _ I pre) fun u s1 hh => ?_) ht
  obtain ⟨x, H1, I1, rx, C, g, a, dx, vf, k, fd, ps, gT, dvs, ws, rfl, hw, cl, M, l0, F, hr, hb, hd, q⟩ := hh
  obtain rfl : u = Value.ref a := rx
  refine getmeth_ok I1 hw cl M l0 ?_
  cases es with
  | nil =>
    cases hnil rfl
    obtain ⟨m1, e1, h1, rh1, re1, p1⟩ := q
    exact PySem.W.callWith_K0 (first := [.ref a]) I1.kIn M.kp (run_own (us := [.ref a]) (vs := [.ref a]) F hr hb hd (L2N.passAt tk σ) I1 (.cons rfl .nil) (p1.here rh1 .nil))
  | cons e1 er =>
    obtain ⟨h1, h2⟩ := hst e1 er rfl
    refine PySem.W.callWith_K (first := [.ref a]) (h₀ := X.base) I.ok.mod.kin M.kp (thn (ha.run pos pins s1 σ H1 _ I1 q) fun us s2 ⟨vs, H2, I2, r2, q2⟩ => ⟨I2.kIn, ?_⟩) h1 h2
    exact run_own (us := .ref a :: us) (vs := .ref a :: vs) F hr hb hd (L2N.passAt tk σ) I2 (.cons rfl r2) q2
theorem RH.made {T : Fx} {m : Nat → Addr} {h : Hh} {H : Hp} {x dx C : Addr} {c : Nat} (r : RH T m h H) (hx : H x = none) (hd : H dx = none) (ne : dx ≠ x) (hC : T.cv c = .ref C) (k : Cls T.K C) :
    ∃ m', Ge m h H m' (h ++ [.ins c []]) (upd (upd H dx (.own x)) x (.ins C dx [])) ∧ RH T m' (h ++ [.ins c []]) (upd (upd H dx (.own x)) x (.ins C dx [])) ∧ RD T.K m' (h ++ [O.ins c []]).length (upd (upd H dx (.own x)) x (.ins C dx [])) (.ref h.length) (.ref x) := by
  obtain ⟨g1, r1⟩ := r.lay (u := .own x) hd
  obtain ⟨m', g2, r2, rd⟩ := r1.new (p := x) (u := .ins C dx []) (o := .ins c []) (by rw [upd_ne (Ne.symm ne)]; exact hx) fun m' _ _ => ⟨C, dx, [], hC, upd_same, .nil, k, fun p hp => by cases hp⟩
  exact ⟨m', g1.trans g2, r2, rd⟩
theorem run_mk {k : Nat} {C f : Addr} {fd : FuncData} {ps : List Str} {sp : Sp} {E : XK} {pins : List (Addr × Obj)} {σ : L2.St} {H : Hp} {s : Shared} {Q : VK} {us : List Value} {kw : List (Str × Value)} {bs : Addr → List V} {bv : Addr → List Value}
    (M : Mk X.K C f) (F : FnOk X.prog X.w X.K X.mg X.base (L2N.CX X.prog X.w) k f fd ps sp) (hr : Room (k + 1) X.A) (hx : PassesAt (L2N.CX X.prog X.w) X σ E) (I : Inv X pins σ H s) 
    (hb : ∀ (x : Addr) (s' : Shared), X.K.In s'.heap → BindsTo s' fd ⟨.ref x :: us, kw⟩ (ps.zip (bv x))) (r : ∀ x, Vals (bs x) (bv x))
    (h : ∀ x dx, H x = none → H dx = none → dx ≠ x → sp (bs x) (upd (upd H dx (.own x)) x (.ins C dx [])) (fun v H2 => v = .non ∧ Q (.ref x) H2) E) :
    wpAny (model X.prog X.w) X.A (call (.ref C) us kw) (EP X pins σ Q) X.xe s := by
  have hlt : s.heap.objs.size ≠ s.heap.objs.size + 1 := Nat.ne_of_lt (Nat.lt_succ_self _)
  have start := h (s.heap.objs.size + 1) s.heap.objs.size (I.hok.fresh (Nat.le_succ _)) (I.hok.fresh (Nat.le_refl _)) hlt
  have J := Inv.made (C := C) I
  have run := F.run (X.A.under (.builtin "type.__call__" ⟨.ref C :: us, kw⟩)) X.stack _ _ ⟨.ref (s.heap.objs.size + 1) :: us, kw⟩ (bv (s.heap.objs.size + 1)) (bs (s.heap.objs.size + 1)) _ E (hr.make C us kw) (J.env0.make C us kw)
    (hb _ _ J.kIn) (r _) start
  refine wpAny_call (make_map (f := f) I.kIn M.makes M.init (beq_iff_eq.mp M.fn) (codeAny_mono run fun res s2 q => ?_))
  match res, q with
  | .error x, q => exact hx pins _ _ x s2 J q
  | .ok (.ret w), q =>
    obtain ⟨v, H', I3, rv, ev, q3⟩ := J.after q
    subst ev
    exact ⟨rv, V.ref (s.heap.objs.size + 1), H', I3, rfl, q3⟩
  | .ok .next, q => exact q.elim
  | .ok .brk, q => exact q.elim
  | .ok .cont, q => exact q.elim
theorem mk_rd {σ : L2.St} {m : Nat → Addr} {h : Hh} {H : Hp} {c : Nat} {C : Addr} {g : FD} {as : List D → List D} {bs : List V} {n : Nat} {Q : VK} (hC : cv c = .ref C) (k : Cls X.K C) (rh : RH (FX X cv fn none) m h H) (hn : bs.length + 1 = n)
    (ra : ∀ {m' N' H'} {d : D} {x : V}, Ge m h H m' (h ++ [.ins c []]) H' → N' = (h ++ [O.ins c []]).length → RD X.K m' N' H' d x → RDs X.K m' N' H' (as [d]) (x :: bs))
    (p : PO (FX X cv fn none) W (rdR (FX X cv fn none)) σ m h H ((g (as [.ref h.length]) (h ++ [.ins c []])).bind fun r h2 => match r with
      | .non => .ok (.ref h.length) h2
      | _ => .stuck) Q) :
    ∀ x dx, H x = none → H dx = none → dx ≠ x → spT (FX X cv fn none) n g (.ref x :: bs) (upd (upd H dx (.own x)) x (.ins C dx [])) (fun v H2 => v = .non ∧ Q (.ref x) H2) (WE W σ) := by
  intro x dx hx hd ne
  obtain ⟨m', g1, r1, rd⟩ := rh.made (c := c) hx hd ne hC k
  refine ⟨hn, m', h ++ [.ins c []], as [.ref h.length], r1, ra g1 rfl rd, PO.call ((p.base g1).bind fun r h2 m2 H2 v g2 rh2 rv p2 => ?_)⟩
  split at p2
  · cases rv
    exact ⟨rfl, p2.here rh2 (g2.rd rd)⟩
  · exact p2.elim
structure CtOk (X : Cx) (cv : Nat → Value) (fn : Nat → Str) (c : Nat) (C g : Addr) (k : Nat) (fd : FuncData) (ps : List Str) (f : FD) : Prop where
  hC : cv c = .ref C
  cl : Cls X.K C
  mkc : Mk X.K C g
  F : FnOk X.prog X.w X.K X.mg X.base (L2N.CX X.prog X.w) k g fd ps (spT (FX X cv fn none) ps.length f)
  r : Room (k + 1) X.A
theorem s_mk {x : Str} {p : Pos} {es : List Expr} {c k : Nat} {C g : Addr} {fd : FuncData} {ps : List Str} {f : FD} {as : AD} {dds : List D} {dvs : List V} {ws : List Value} (K : CtOk X cv fn c C g k fd ps f) (hg : Gl X x) (hm : X.mg x = some (.ref C)) (ha : PA X es (PA_ (FX X cv fn none) W as)) (tk : L2N.Takes X W)
    (hlen : ∀ e h ds h', as e h = .ok ds h' → ds.length = es.length) (hnil : es = [] → as = aN) (hb : Binds X.K fd ps ws) (hd : Vals dvs ws) (hdd : ∀ m N H, RDs X.K m N H dds dvs) (hn : (es.length + 1) + dvs.length = ps.length)
    (hst : ∀ e r, es = e :: r → starEach (e :: r) X.env = (false, eval e X.env) :: starEach r X.env ∧ (backTo pos (starEach r X.env)).any (·.1) = false) (hdb : (x == ("__debug__" : Str)) = false) :
    PE X (.Call (.Name x p) es [] pos) (PE_ (FX X cv fn none) W (dMk c f as dds)) := by
  refine ⟨fun pins s σ H Q I hq => ?_⟩
  obtain ⟨m, e, h, rh, re, p⟩ := hq
  have pre : PA_ (FX X cv fn none) W as σ H fun vs H1 => vs.length = es.length ∧ ∀ y dx, H1 y = none → H1 dx = none → dx ≠ y → spT (FX X cv fn none) ps.length f (.ref y :: (vs ++ dvs)) (upd (upd H1 dx (.own y)) y (.ins C dx [])) (fun v H2 => v = .non ∧ Q (.ref y) H2) (WE W σ) :=
    ⟨m, e, h, rh, re, PO.bindE p fun ds h1 m1 H1 vs eq g1 rh1 r1 p1 => by
      have l1 : vs.length = es.length := by rw [← r1.length]; exact hlen _ _ _ _ eq
      refine ⟨l1, mk_rd (as := fun l => l ++ (ds ++ dds)) K.hC K.cl rh1 (by rw [List.length_append, l1]; omega) (fun {m' N' H' d x} g2 e2 r2 => ?_) p1⟩
      subst e2
      exact .cons r2 ((g2.rds r1).append (hdd _ _ _))⟩
  refine wpAny_Call_Name_kw (ld_glob I hg hm ?_ hdb)
  have fin : ∀ {s1 : Shared} {us : List Value} {vs : List V} {H1 : Hp}, Inv X pins σ H1 s1 → Vals vs us → (vs.length = es.length ∧ ∀ y dx, H1 y = none → H1 dx = none → dx ≠ y → spT (FX X cv fn none) ps.length f (.ref y :: (vs ++ dvs)) (upd (upd H1 dx (.own y)) y (.ins C dx [])) (fun v H2 => v = .non ∧ Q (.ref y) H2) (WE W σ)) →
      wpAny (model X.prog X.w) X.A (call (.ref C) us) (EP X pins σ Q) X.xe s1 := fun {s1 us vs H1} I1 r q => by
    have rr := r.append hd
    refine run_mk (bs := fun y => .ref y :: (vs ++ dvs)) (bv := fun y => .ref y :: (us ++ ws)) K.mkc K.F K.r (L2N.passAt tk σ) I1 (fun y s' kin => ?_) (fun y => .cons rfl rr) q.2
    have := hb s' (.ref y :: us) kin (by rw [List.cons_append, List.length_cons, ← rr.length, List.length_append, q.1]; omega)
    exact this
  cases es with
  | nil =>
    cases hnil rfl
    obtain ⟨m1, e1, h1, rh1, re1, p1⟩ := pre
    exact PySem.W.callWith_K0 I.kIn K.mkc.kp (fin (us := []) I .nil (p1.here rh1 .nil))
  | cons e1 er =>
    obtain ⟨h1, h2⟩ := hst e1 er rfl
    exact PySem.W.callWith_K (h₀ := X.base) I.ok.mod.kin K.mkc.kp (thn (ha.run pos pins s σ H _ I pre) fun us s2 ⟨vs, H2, I2, r2, q2⟩ => ⟨I2.kIn, fin I2 r2 q2⟩) h1 h2
theorem gKP_rds {K : PySem.W.Frag} {m : Nat → Addr} {N : Nat} {H : Hp} {us mv ws : List D} {vs nv zs : List V} (r1 : RDs K m N H us vs) (r2 : RDs K m N H mv nv) (r3 : RDs K m N H ws zs) : ∀ kp : List KP, RDs K m N H (gKP kp us mv ws) (gKP kp vs nv zs) := by
  have one : ∀ {as : List D} {bs : List V}, RDs K m N H as bs → ∀ i : Nat, (as[i]? = none ∧ bs[i]? = none) ∨ ∃ d v, as[i]? = some d ∧ bs[i]? = some v ∧ RD K m N H d v := fun {as bs} r i => by
    cases e : as[i]? with
    | none =>
      refine .inl ⟨rfl, ?_⟩
      have := List.getElem?_eq_none_iff.mp e
      exact List.getElem?_eq_none (by rw [← r.length]; exact this)
    | some d =>
      obtain ⟨v, h1, h2⟩ := r.get e
      exact .inr ⟨d, v, rfl, h1, h2⟩
  intro kp
  induction kp with
  | nil => exact .nil
  | cons q kp ih =>
    unfold gKP at ih ⊢
    rw [List.filterMap_cons, List.filterMap_cons]
    have key : (KP.gt us mv ws q = none ∧ KP.gt vs nv zs q = none) ∨ ∃ d v, KP.gt us mv ws q = some d ∧ KP.gt vs nv zs q = some v ∧ RD K m N H d v := by
      cases q with
      | p i => exact one r1 i
      | k i => exact one r3 i
      | c i => exact one r2 i
    rcases key with ⟨e1, e2⟩ | ⟨d, v, e1, e2, r⟩
    · rw [e1, e2]; exact ih
    · rw [e1, e2]; exact .cons r ih
theorem pk_D {fs : AD} {kws : List Keyword} {xs : Xs} {fe : ED} {nm : Option Str} {e : Expr} {kp : Pos} (ha : PE X e (PE_ (FX X cv fn xs) W fe)) (hr : PK X kws (PA_ (FX X cv fn xs) W fs)) : PK X (⟨nm, e, kp⟩ :: kws) (PA_ (FX X cv fn xs) W (aC fe fs)) :=
  ⟨fun pos pins s σ H Q I q => (pk_cons ha hr).run pos pins s σ H Q I (by
    obtain ⟨m, e, h, rh, re, p⟩ := q
    exact ⟨m, e, h, rh, re, p.bind fun d h1 m1 H1 v g1 rh1 r1 p1 => ⟨m1, e, h1, rh1, g1.re re, p1.bind fun ds h2 m2 H2 vs g2 rh2 r2 p2 => p2.here rh2 (.cons (g2.rd r1) r2)⟩⟩)⟩
theorem pk_D0 {xs : Xs} : PK X [] (PA_ (FX X cv fn xs) W aN) := ⟨fun pos pins s σ H Q I q => pk_nil.run pos pins s σ H Q I (by
  obtain ⟨m, e, h, rh, re, p⟩ := q
  exact p.here rh .nil)⟩
theorem s_mkK {x : Str} {p : Pos} {es : List Expr} {kws : List Keyword} {c k : Nat} {C g : Addr} {fd : FuncData} {ps ks : List Str} {f : FD} {as kd : AD} {kp : List KP} {dds : List D} {dvs : List V} {mv : List Value} (K : CtOk X cv fn c C g k fd ps f) (hg : Gl X x) (hm : X.mg x = some (.ref C)) (ha : PA X es (PA_ (FX X cv fn none) W as)) (hk : PK X kws (PA_ (FX X cv fn none) W kd)) (tk : L2N.Takes X W)
    (hlen : ∀ e h ds h', as e h = .ok ds h' → ds.length = es.length) (hlek : ∀ e h ds h', kd e h = .ok ds h' → ds.length = ks.length) (hnil : es = [] → as = aN)
    (hb : KBn X.K fd ps (es.length + 1) ks (fun us ws => gKP kp us mv ws) (fun vs zs => gKP kp vs dvs zs)) (hdd : ∀ m N H, RDs X.K m N H dds dvs) (hn : ∀ (us mv ws : List D), us.length = es.length + 1 → mv.length = dds.length → ws.length = ks.length → (gKP kp us mv ws).length = ps.length)
    (hst : ∀ e r, es = e :: r → starEach (e :: r) X.env = (false, eval e X.env) :: starEach r X.env)
    (hall : (backToKw pos (keywordEach kws X.env)).all (·.1.isSome) = true) (hks : (backToKw pos (keywordEach kws X.env)).filterMap (·.1) = ks)
    (hpl : ((backTo pos (starEach es X.env)).any (·.1) || (backToKw pos (keywordEach kws X.env)).any (·.1.isNone)) = false) (hdb : (x == ("__debug__" : Str)) = false) :
    PE X (.Call (.Name x p) es kws pos) (PE_ (FX X cv fn none) W (dMkK c f kp dds as kd)) := by
  refine ⟨fun pins s σ H Q I hq => ?_⟩
  obtain ⟨m, e, h, rh, re, p⟩ := hq
  have pre : PA_ (FX X cv fn none) W as σ H fun vs H1 => PA_ (FX X cv fn none) W kd σ H1 fun zs H2 => vs.length = es.length ∧ zs.length = ks.length ∧ ∀ y dx, H2 y = none → H2 dx = none → dx ≠ y →
      spT (FX X cv fn none) ps.length f (gKP kp (.ref y :: vs) dvs zs) (upd (upd H2 dx (.own y)) y (.ins C dx [])) (fun v H2 => v = .non ∧ Q (.ref y) H2) (WE W σ) :=
    ⟨m, e, h, rh, re, PO.bindE p fun ds h1 m1 H1 vs eq g1 rh1 r1 p1 => ⟨m1, e, h1, rh1, g1.re re, PO.bindE p1 fun zs h2 m2 H2 ws eq2 g2 rh2 r2 p2 => by
      have l1 : ds.length = es.length := hlen _ _ _ _ eq
      have l2 : zs.length = ks.length := hlek _ _ _ _ eq2
      refine ⟨by rw [← r1.length]; exact l1, by rw [← r2.length]; exact l2, fun y dx hy hd ne => ?_⟩
      obtain ⟨m', g3, r3, rd⟩ := rh2.made (c := c) hy hd ne K.hC K.cl
      have rr := gKP_rds (RDs.cons rd (g3.rds (g2.rds r1))) (hdd m' (h2 ++ [O.ins c []]).length _) (g3.rds r2) kp
      refine ⟨by rw [← rr.length]; exact hn _ _ _ (by rw [List.length_cons, l1]) rfl l2, m', h2 ++ [.ins c []], _, r3, rr, PO.call ((p2.base g3).bind fun r h4 m4 H4 v g4 rh4 rv p4 => ?_)⟩
      split at p4
      · cases rv
        exact ⟨rfl, p4.here rh4 (g4.rd rd)⟩
      · exact p4.elim⟩⟩
  refine wpAny_Call_Name_kw (ld_glob I hg hm ?_ hdb)
  have fin : ∀ {s1 : Shared} {us ws : List Value} {vs zs : List V} {H1 : Hp}, Inv X pins σ H1 s1 → Vals vs us → Vals zs ws → (vs.length = es.length ∧ zs.length = ks.length ∧ ∀ y dx, H1 y = none → H1 dx = none → dx ≠ y →
      spT (FX X cv fn none) ps.length f (gKP kp (.ref y :: vs) dvs zs) (upd (upd H1 dx (.own y)) y (.ins C dx [])) (fun v H2 => v = .non ∧ Q (.ref y) H2) (WE W σ)) → wpAny (model X.prog X.w) X.A (call (.ref C) us (ks.zip ws)) (EP X pins σ Q) X.xe s1 := fun {s1 us ws vs zs H1} I1 r rz q => by
    obtain ⟨q1, q2, q3⟩ := q
    refine run_mk (bs := fun y => gKP kp (.ref y :: vs) dvs zs) (bv := fun y => gKP kp (.ref y :: us) mv ws) K.mkc K.F K.r (L2N.passAt tk σ) I1 (fun y s' kin => ?_) (fun y => hb.rel (.cons rfl r) rz) q3
    exact hb.to s' (.ref y :: us) ws kin (by rw [List.length_cons, ← r.length, q1]) (by rw [← rz.length, q2])
  cases es with
  | nil =>
    cases hnil rfl
    obtain ⟨m1, e1, h1, rh1, re1, p1⟩ := pre
    refine PySem.W.callWith_KW0 (h₀ := X.base) I.ok.mod.kin K.mkc.kp hall (thn (hk.run pos pins s σ H _ I (p1.here rh1 .nil)) fun ws s2 ⟨zs, H2, I2, rz, q2⟩ => ⟨I2.kIn, ?_⟩) hpl
    rw [hks]
    exact fin (us := []) I2 .nil rz q2
  | cons e1 er =>
    refine PySem.W.callWith_KW (h₀ := X.base) I.ok.mod.kin K.mkc.kp hall (thn (ha.run pos pins s σ H _ I pre) fun us s1 ⟨vs, H1, I1, r1, q1⟩ => ?_) hpl (hst e1 er rfl)
    refine thn (hk.run pos pins s1 σ H1 _ I1 q1) fun ws s2 ⟨zs, H2, I2, rz, q2⟩ => ⟨I2.kIn, ?_⟩
    rw [hks]
    exact fin I2 r1 rz q2
end
end Mn
namespace Mn
open PySem L2
def spX (K : PySem.W.Frag) (C : Addr) (ns : List Str) : Sp := fun vs H Q _ => ∃ (a : Addr) (ys : List V), vs = .ref a :: ys ∧ ys.length = ns.length ∧ H a = some (exo a C none) ∧ ∀ dx, H dx = none → dx ≠ a → Q .non (upd (upd H dx (exd dx (ns.zip ys).reverse)) a (exo a C (some dx)))
section
variable {CX : CXT} {P : Program} {w : World} {K : PySem.W.Frag} {mg : Str → Option Value} {base : Heap} {f C : Addr} {name qual : Str} {params : Arguments} {scope : Scope} {dV kV doc pm cdv ct oc : Value} {an od : Option Addr} {osl : Array (Option Value)}
theorem vis_of {N ps : List Str} (S : FnScope N ps scope) {x : Str} (h : x ∈ ps) : Vis scope x := by
  rcases S.par x h with q | q
  · exact .inl q
  · exact .inr (.inl q)
theorem xinit1 {p n : Str} {p1 p2 p3 p4 : Pos} (lk : K.lookup f = some ⟨oc, od, .func (PySem.W.fnOf name qual params [.Assign [.Attribute (.Name "self" p1) n p2] (.Name p p3) p4] scope dV kV doc pm an cdv ct), osl⟩) (hcd : PySem.W.codeIn K cdv qual = true)
    (S : FnScope ["self", p] ["self", p] scope) (h1 : (p == ("__debug__" : Str)) = false) (h2 : (p == ("__classdict__" : Str)) = false) (T : OexC K C) (hn : PySem.W.findIn K (.ref C) n = some none) :
    FnOk P w K mg base CX 1 f (PySem.W.fnOf name qual params [.Assign [.Attribute (.Name "self" p1) n p2] (.Name p p3) p4] scope dV kV doc pm an cdv ct) ["self", p] (spX K C [n]) := by
  refine fn_of lk hcd S (fun vs H Q E h => ?_) fun A outer s H vs Q E hr h => ?_
  · obtain ⟨a, ys, rfl, hl, _⟩ := h
    rw [List.length_cons, hl]
    rfl
  · obtain ⟨a, ys, rfl, hl, ha, q⟩ := h
    match ys, hl with
    | [y], _ =>
      refine ⟨_, pss_one (ps_ost (pe_var (i := 0) rfl (vis_of S (.head _)) (by decide) (by decide)) (pe_var (i := 1) rfl (vis_of S (.tail _ (.head _))) h1 h2) rfl), ?_⟩
      exact ⟨y, rfl, .ref a, rfl, a, C, rfl, T, hn, .inl ⟨ha, fun dx hd ne => q dx hd ne⟩⟩
end
structure XcOk (X : Cx) (cv : Nat → Value) (c : Nat) (C : Addr) (fs : List Nat) : Prop where
  hC : cv c = .ref C
  T : OexC X.K C
  ini : ∃ (fI : Addr) (fd : FuncData) (ps : List Str), PySem.W.findIn X.K (.ref C) "__init__" = some (some (.ref fI)) ∧ PySem.W.typeIn X.K (.ref fI) = some (.type "function") ∧ FnOk X.prog X.w X.K X.mg X.base (L2N.CX X.prog X.w) 1 fI fd ps (spX X.K C (fs.map fnm)) ∧ Binds X.K fd ps []
section
variable {X : Cx} {cv : Nat → Value} {fn : Nat → Str} {W : WX} {pos : Pos}
theorem pf_zip {K : PySem.W.Frag} {m : Nat → Addr} {N : Nat} {H : Hp} : ∀ {fs : List Nat} {ds : List D} {vs : List V}, RDs K m N H ds vs → Paired (PF K m N H) (fs.zip ds) ((fs.map fnm).zip vs)
  | [], _, _, _ => by simp; exact .nil
  | f :: fs, _, _, .nil => by simp; exact .nil
  | f :: fs, _, _, .cons a r => .cons ⟨rfl, a⟩ (pf_zip r)
theorem paired_rev {α β : Type} {R : α → β → Prop} : ∀ {as : List α} {bs : List β}, Paired R as bs → Paired R as.reverse bs.reverse := by
  have app : ∀ {as cs : List α} {bs ds : List β}, Paired R as bs → Paired R cs ds → Paired R (as ++ cs) (bs ++ ds) := fun {as cs bs ds} r s => by
    induction r with
    | nil => exact s
    | cons a _ ih => exact .cons a ih
  intro as bs r
  induction r with
  | nil => exact .nil
  | cons a r ih => rw [List.reverse_cons, List.reverse_cons]; exact app ih (.cons a .nil)
theorem pmk_oexN {CX : CXT} {x : Str} {C fI : Addr} {k : Nat} {fd : FuncData} {ps : List Str} {sp : Sp} {e : Expr} {es : List Expr} {ta : TA} {p : Pos} (T : OexC X.K C) (iC : PySem.W.findIn X.K (.ref C) "__init__" = some (some (.ref fI))) (tI : PySem.W.typeIn X.K (.ref fI) = some (.type "function"))
    (Fn : FnOk X.prog X.w X.K X.mg X.base CX k fI fd ps sp) (hr : Room (k + 1) X.A) (hb : Binds X.K fd ps []) (hx : Passes CX X (fun _ _ _ => False)) (hg : Gl X x) (hm : X.mg x = some (.ref C)) (ha : PA X (e :: es) ta) (hdb : (x == ("__debug__" : Str)) = false)
    (hst : starEach (e :: es) X.env = (false, eval e X.env) :: starEach es X.env) (hpl : (backTo pos (starEach es X.env)).any (·.1) = false) : L2N.PMk X (.Call (.Name x p) (e :: es) [] pos) (tMkO C sp [] ta) := by
  intro pins s0 σ H Q I hq
  refine wpAny_Call_Name_kw (ld_glob I hg hm ?_ hdb)
  refine PySem.W.callWith_K (h₀ := X.base) I.ok.mod.kin T.kC (thn (ha.run pos pins s0 σ H _ I hq) fun us s1 ⟨vs, H1, I1, r1, hl1, q1⟩ => ⟨I1.kIn, ?_⟩) hst hpl
  show wpAny _ _ (call (.ref C) us) _ _ _
  obtain ⟨hp, gs, dr, tk, os⟩ := s1
  obtain ⟨_, _, _, _, bm, _, _, _, _, _, _, _, _, _, _, hC, hbm⟩ := T.cls
  have up : hp.objs.size ≤ hp.objs.size + 1 := Nat.le_add_right _ 1
  have new : H1 (hp.objs.size + 1) = none := I1.hok.fresh up
  have q2 := q1 _ new
  rw [List.append_nil] at q2
  have lay : ∀ b o, hp.get? b = some o → ((hp.push (PySem.W.kdv_tup us)).push (PySem.HandSPX.excO C hp.objs.size)).get? b = some o := fun b o z => Heap.get?_push_of_some _ (Heap.get?_push_of_some _ z)
  have I2 := I1.laid (t' := tk) (o := exo (hp.objs.size + 1) C none) lay up (exo_ok (by heap_get))
  have rv : Vals (V.ref (hp.objs.size + 1) :: vs) (Value.ref (hp.objs.size + 1) :: us) := .cons rfl r1
  have ln : (Value.ref (hp.objs.size + 1) :: us).length = ps.length := rv.length.symm.trans (Fn.len _ _ _ _ q2)
  have bd := hb _ (Value.ref (hp.objs.size + 1) :: us) I2.kIn (by rw [List.append_nil]; exact ln)
  rw [List.append_nil] at bd
  have small : us.length ≤ sizeLine := by rw [← r1.length, sizeLine_eq]; omega
  refine wpAny_call (PySem.HandSPX.call_own PySem.F.excBase_ValueError (fun Y => PySem.HandSPX.refsVE_contains Y bm hbm) (I1.kIn _ _ hC) (PySem.W.looks_findIn I1.kIn iC) (fun y => PySem.W.bind_fn I1.kIn y tI) small ?_)
  refine codeAny_mono (Fn.run _ X.stack _ _ ⟨Value.ref (hp.objs.size + 1) :: us, []⟩ _ _ _ (fun _ _ _ => False) (hr.make C us []) (I2.env0.make C us []) bd rv q2) fun res s' z => ?_
  match res, z with
  | .error er, z => exact hx pins σ _ _ er s' I2 z
  | .ok .next, z => exact z.elim
  | .ok .brk, z => exact z.elim
  | .ok .cont, z => exact z.elim
  | .ok (.ret u), ⟨v, H2, os2, bare, un, hok, ru, ev, d, fs, ea, ed, hd1, q3⟩ =>
    subst ev
    obtain ⟨h2, g2, d2, t2, os'⟩ := s'
    obtain ⟨t0, G, J, kG, ge, hoe, na⟩ := mk_end0 (d2 := d2) (t2 := t2) I1 up lay un hok os2 bare ea ed hd1
    exact ⟨ru, _, _, _, _, _, _, _, rfl, J, kG, ge, hoe, ⟨rfl, rfl, fun ws hw => by cases hw; rfl⟩, rfl, rfl, na, rfl, bare, raises_own T.exC T.tyC, q3⟩
theorem s_raiseA {x : Str} {p1 p2 p3 : Pos} {e : Expr} {es : List Expr} {c : Nat} {C : Addr} {fs : List Nat} {as : AD} (K : XcOk X cv c C fs) (hc : X.calm = true) (tk : L2N.Takes X W) (hr : Room 2 X.A) (hg : Gl X x) (hm : X.mg x = some (.ref C)) (ha : PA X (e :: es) (PA_ (FX X cv fn none) W as)) (hne : fs ≠ []) (h900 : fs.length < 900)
    (hdb : (x == ("__debug__" : Str)) = false) (hst : starEach (e :: es) X.env = (false, eval e X.env) :: starEach es X.env) (hpl : (backTo p2 (starEach es X.env)).any (·.1) = false) :
    PS X (.Raise (some (.Call (.Name x p1) (e :: es) [] p2)) none p3) (PS_ (FX X cv fn none) W (sRaiseA c fs as)) := by
  obtain ⟨fI, fd, ps, i1, i2, F, hb⟩ := K.ini
  refine psImp (L2N.ps_raise hc tk (pmk_oexN K.T i1 i2 F hr hb (fun pins σ H s e s' I q => ?_) hg hm ha hdb hst hpl)) fun D σ H q => ?_
  · exact tk e s' (L2N.XE.of_call I (fun _ _ _ h => h) (by
      have q' := q
      obtain ⟨_, _, _, _, _, _, _, _, _, _, _, _, z⟩ := q'
      exact z.elim))
  · obtain ⟨m, e0, h, rh, re, p⟩ := q
    refine ⟨m, e0, h, rh, re, PO.toS re p fun ds h1 m1 H1 vs g1 rh1 r1 p1 => ?_⟩
    split at p1
    · rename_i hl
      have lv : vs.length = fs.length := by rw [← r1.length]; exact hl
      refine ⟨by omega, fun a hna => ⟨a, vs ++ [], rfl, by rw [List.append_nil, List.length_map]; exact lv, upd_same, fun dx hd ne => ⟨rfl, dx, ((fs.map fnm).zip (vs ++ [])).reverse, upd_same, by rw [upd_ne ne, upd_same], ?_, ?_⟩⟩⟩
      · rw [upd_ne ne] at hd; exact hd
      · have hd1 : H1 dx = none := by rw [upd_ne ne] at hd; exact hd
        rw [List.append_nil]
        have e : upd (del (upd (upd (upd H1 a (exo a C none)) dx (exd dx ((fs.map fnm).zip vs).reverse)) a (exo a C (some dx))) a) dx (.xd ((fs.map fnm).zip vs).reverse) = upd H1 dx (.xd ((fs.map fnm).zip vs).reverse) := by
          funext b
          by_cases hb : b = dx
          · subst hb; rw [upd_same, upd_same]
          · rw [upd_ne hb, upd_ne hb]
            by_cases hc : b = a
            · subst hc; rw [del_same]; exact hna.symm
            · rw [del_ne hc, upd_ne hc, upd_ne hb, upd_ne hc]
        rw [e]
        obtain ⟨g2, rh2⟩ := rh1.lay (u := .xd ((fs.map fnm).zip vs).reverse) hd1
        refine p1 m1 _ σ (.ref C) (some dx) g2 rh2 (g2.re (g1.re re)) ⟨K.hC.symm, fun z => ?_, fun _ => ⟨dx, _, rfl, upd_same, paired_rev (pf_zip (g2.rds r1))⟩⟩
        exfalso
        have z2 := congrArg List.length z
        simp only [List.length_reverse, List.length_zip, List.length_nil, hl, Nat.min_self] at z2
        exact hne (List.length_eq_zero_iff.mp z2)
    · exact p1.elim
end
section
open PySem.W PySem.Spec PySem.Calls PyProof.Rows
variable {prog : Program} {w : World} {A : Around} {EE : Value → Shared → Prop} {st : Shared} {K : Frag} {y D : Addr} {oy : Obj} {dd : Option Obj}
theorem find_cls {nm : Str} {b g : Value} (h0 : (clsIn K D).isSome = true) (h1 : findIn K (.ref D) nm = some (some b)) (h2 : specialIn K b "__get__" = some (some g)) (h3 : takesIn K b = some true) : findObj K D dd nm = some (.bind g b) := by
  obtain ⟨cd, h0⟩ := Option.isSome_iff_exists.mp h0
  unfold findObj
  simp [h0, h1, h2, h3]
theorem cls_told {Q : Option Value → Shared → Prop} (C : ExcC K D) (X : K.In st.heap) (J : InstAt st.heap y oy D dd) (h : Q (some (.ref D)) { st with toks := st.toks + 1 }) : wpAny (model prog w) A (getAttr? (.ref y) "__class__") Q EE st := by
  have found : findObj K D dd "__class__" = some (.bind (.builtin "getset_descriptor.__get__") (.builtin "object.__class__")) := find_cls (by obtain ⟨cd, e, _⟩ := any_some C.hd; rw [e]; rfl) C.ha C.hn C.ht
  obtain ⟨hh, gg, dr, tk, os⟩ := st
  have ty := J.type (M := model prog w)
  have own := looks_findIn (M := model prog w) X C.hg; have hook := looks_findIn (M := model prog w) X C.hk
  have look := looks_find (M := model prog w) X J found
  have isx : Looks (model prog w) hh (isInstance (.ref y) (.type "BaseException")) true := ty.andThen (looks_subIn X C.hs)
  have n1 : (Value.builtin "BaseException.__getattribute__" == Value.builtin "object.__getattribute__") = false := by decide +kernel
  have n2 : (onTheHeap (Value.ref D) && Value.builtin "BaseException.__getattribute__" == Value.builtin "object.__getattribute__") = false := by rw [n1]; rfl
  have n3 : (false && onTheHeap (Value.builtin "BaseException.__getattribute__")) = false := rfl
  unfold getAttr? getAttrBy? getAttrBy; refine wpAny_bind (wpAny_mkText (wpAny_bind (wpAny_attempt (wpAny_holding (wpAny_bind (ty.at (wpAny_bind (own.at ?_)))))))); show wpAny _ _ (if (onTheHeap (Value.ref D) && Value.builtin "BaseException.__getattribute__" == Value.builtin "object.__getattribute__") = true then _ else _) _ _ _
  rw [n2, if_neg Bool.false_ne_true]; unfold getAttrByItsOwn hookBefore; refine wpAny_bind ?_; rw [if_pos (show onTheHeap (Value.ref D) = true from rfl)]; refine hook.at (wpAny_bind (wpAny_attempt (wpAny_holding ?_)))
  unfold callGetattribute; rw [n3, if_neg Bool.false_ne_true]; unfold boundAndCalled; rw [PySem.F.excAttr_ValueError.ga.bind (.ref y)]; refine wpAny_bind (wpAny_pure ?_)
  show wpAny _ _ (call (.builtin "BaseException.__getattribute__") [.ref y, .str "__class__" tk]) _ _ _
  refine wpAny_call (codeAny_call_builtin PySem.F.excAttr_ValueError.ga.plain PySem.F.entry_bexc_ga (@check_slot (model prog w) _ _ ⟨hh, gg, dr, tk + 1, os⟩ "BaseException.__getattribute__" "BaseException" "__getattribute__" (.ref y) [.str "__class__" tk] [] _ (by decide +kernel) (by decide +kernel) isx (PySem.F.args_bexc_ga (.ref y) (.str "__class__" tk)) ?_))
  unfold Builtin.«object.__getattribute__»; refine wpAny_bind (wpAny_of_eq (a := ((Value.ref y : Value), [Value.str "__class__" tk])) (by first | rfl | (simp only [slotArgs]; rfl)) (wpAny_bind (wpAny_pure (wpAny_bind (ty.at (wpAny_bind (look.at ?_)))))))
  show wpAny _ _ (holding [Value.builtin "object.__class__"] (call (.builtin "getset_descriptor.__get__") [.builtin "object.__class__", .ref y, .ref D]) >>= ret) _ _ _
  refine wpAny_bind (wpAny_holding (wpAny_call (class_get (s := ⟨hh, gg, dr, tk + 1, os⟩) (ox := oy) (od := dd) X J C.hm (wpAny_pure ?_)))); show wpAny _ _ (handedOut (.ref D)) _ _ _
  rw [handedOut_of (v := .ref D) rfl]
  first
    | exact wpAny_pure (wpAny_pure h)
    | exact wpAny_pure h
theorem kit_told (C : ExcC K D) : KitX K (.ref y) (.ref D) (fun h => ∃ dd, InstAt h y oy D dd) where
  ty := fun _ _ _ ⟨_, J⟩ => J.type
  it := fun _ _ X _ => by
    obtain ⟨cd, e, _⟩ := any_some C.hd
    unfold clsIn at e; split at e
    · rename_i hD; intro A' Q' E' s' k q; unfold isType loadHead; exact wpAny_bind (wpAny_loadPart (k _ _ (X _ _ hD)) (wpAny_pure q))
    · cases e
  ne := fun h tp dd its n sl X htp => by
    obtain ⟨cd, e, _⟩ := any_some C.hd
    refine Bool.eq_false_iff.mpr fun q => ?_
    cases Value.ref.inj (beq_iff_eq.mp q)
    unfold clsIn at e; split at e
    · rename_i hD; have z := (X _ _ hD).symm.trans htp; cases z
    · cases e
  ca := fun X ⟨_, J⟩ k => cls_told C X J k
end
section
variable {X : Cx} {a D : Addr} {oe : Obj} {pn : List (Addr × Obj)}
theorem isi_told {d : Option Addr} (C : ExcC X.K D) (hz : Zc (.ref D) d oe) (hf : ∃ vs, oe.data = .fields vs) :
    CallR (X.suite a ((a, oe) :: pn)) (.builtin "isinstance") (fun xs H Q => ∃ (c : V) (cv : Value) (b : Bool), xs = [.ref a, c] ∧ (∀ dd, d = some dd → ∃ fs, H dd = some (.xd fs)) ∧ (∀ u, RelV c u → u = cv) ∧ PySem.W.kitOne X.K (.ref D) cv = some b ∧ Q (.bl b) H) := by
  intro pins s σ H xs us Q I r ⟨c, cv, b, e0, hd, hcv, e, q⟩
  subst e0
  match us, r with
  | [_, _], .cons rx (.cons rt .nil) =>
    cases rx; cases hcv _ rt
    obtain ⟨hget, _⟩ := I.pin (a, oe) (List.mem_append.mpr (.inl List.mem_cons_self))
    obtain ⟨vs, hv⟩ := hf
    have J : ∃ dd, PySem.W.InstAt s.heap a oe D dd := by
      cases d with
      | none => exact ⟨none, hget, hz.1, by unfold PySem.W.notCls; rw [hv] <;> rfl, by rw [hz.2]; trivial⟩
      | some dd =>
        obtain ⟨fs, hx⟩ := hd dd rfl
        have ok : ObjOk X.prog X.w H s.heap dd (.xd fs) := I.hok dd _ hx
        obtain ⟨mA, hns, hr⟩ := ok
        obtain ⟨od, ho, _⟩ := lookIn_ns hns
        exact ⟨some od, hget, hz.1, by unfold PySem.W.notCls; rw [hv] <;> rfl, by rw [hz.2]; exact ho⟩
    exact PySem.W.kia_one (kit_told C) I.kIn J e (fun z => nomatch z) fun tk => ⟨.bl b, H, I.kept (t' := tk) fun _ _ z => z, rfl, q⟩
end
end Mn
namespace Mn
open PySem L2
def gSeq : List Tg → List D → Ev → Option Ev
  | [], [], e => some e
  | t :: ts, d :: ds, e => match t d e with
    | some e1 => gSeq ts ds e1
    | none => none
  | _, _, _ => none
def gTm (ts : List Tg) : Tg := fun d e => match d with
  | .tup ds => gSeq ts ds e
  | _ => none
section
variable {X : Cx} {cv : Nat → Value} {fn : Nat → Str} {xs : Xs} {W : WX} {pos : Pos}
def PGs_ (T : Fx) (is : List Nat) (ts : List Tg) : TGs := fun vs σ H Q => ∃ m h ds e e1, RH T m h H ∧ RE T m h.length H e σ ∧ RDs T.K m h.length H ds vs ∧ gSeq ts ds e = some e1 ∧ ∀ σ', RE T m h.length H e1 σ' → But is σ σ' → Q σ' H
theorem But.trans {is js : List Nat} {σ σ1 σ2 : L2.St} (a : But is σ σ1) (b : But js σ1 σ2) : But (is ++ js) σ σ2 :=
  ⟨b.1.trans a.1, fun j hj => by rw [List.mem_append, not_or] at hj; exact (b.2 j hj.2).trans (a.2 j hj.1)⟩
theorem gSeq_len : ∀ {ts : List Tg} {ds : List D} {e e1 : Ev}, gSeq ts ds e = some e1 → ds.length = ts.length
  | [], [], _, _, _ => rfl
  | t :: ts, d :: ds, e, e1, h => by
    unfold gSeq at h
    split at h
    · exact congrArg Nat.succ (gSeq_len h)
    · cases h
  | [], _ :: _, _, _, h => by cases h
  | _ :: _, [], _, _, h => by cases h
def isTg : Expr → Bool
  | .Name .. | .Tuple .. => true
  | _ => false
inductive TgOk (X : Cx) (T : Fx) : List Expr → List Nat → List Tg → Prop
  | nil : TgOk X T [] [] []
  | cons {e : Expr} {es : List Expr} {is js : List Nat} {t : Tg} {ts : List Tg} : isTg e = true → PG X e (PG_ T is t) → TgOk X T es js ts → TgOk X T (e :: es) (is ++ js) (t :: ts)
theorem tgs_ok {T : Fx} {es : List Expr} {is : List Nat} {ts : List Tg} (k : TgOk X T es is ts) : PGs X es (PGs_ T is ts) ∧ (assignEach es X.env).length = ts.length ∧ (assignEach es X.env).findIdx? (·.1) = none := by
  induction k with
  | nil =>
    refine ⟨⟨fun pins s σ H vs us Q I r q => (pgs_nil (X := X)).run pins s σ H vs us Q I r ?_⟩, rfl, rfl⟩
    obtain ⟨m, h, ds, e, e1, rh, re, rd, eg, q⟩ := q
    cases rd with
    | nil =>
      cases eg
      exact ⟨rfl, q σ re ⟨rfl, fun _ _ => rfl⟩⟩
    | cons _ _ => cases eg
  | @cons e0 es is js t ts hn hg k ih =>
    obtain ⟨i1, i2, i3⟩ := ih
    have c1 : (assignEach (e0 :: es) X.env).map (·.2) = assign e0 X.env :: (assignEach es X.env).map (·.2) := by
      cases e0 <;> first | (cases hn; done) | rfl
    refine ⟨⟨fun pins s σ H vs us Q I r q => (pgs_cons hg i1 c1).run pins s σ H vs us Q I r ?_⟩, ?_, ?_⟩
    · obtain ⟨m, h, ds, e, e1, rh, re, rd, eg, q⟩ := q
      cases rd with
      | nil => cases eg
      | @cons d v ds vs a b =>
        unfold gSeq at eg
        split at eg
        · rename_i e2 h2
          exact ⟨v, vs, rfl, m, h, d, e, e2, rh, re, a, h2, fun σ1 re1 b1 => ⟨m, h, ds, e2, e1, rh, re1, b, eg, fun σ2 re2 b2 => q σ2 re2 (b1.trans b2)⟩⟩
        · cases eg
    · have : (assignEach (e0 :: es) X.env).length = (assignEach es X.env).length + 1 := by
        cases e0 <;> first | (cases hn; done) | rfl
      rw [this, i2]
      rfl
    · have : ∃ b, assignEach (e0 :: es) X.env = (false, b) :: assignEach es X.env := by
        cases e0 <;> first | (cases hn; done) | exact ⟨_, rfl⟩
      obtain ⟨b, eb⟩ := this
      rw [eb, List.findIdx?_cons, i3]
      rfl
theorem g_tm {es : List Expr} {is : List Nat} {ts : List Tg} {k : Nat} (hc : X.calm = true) (ho : TgOk X (FX X cv fn xs) es is ts) : PG X (.Tuple es k pos) (PG_ (FX X cv fn xs) is (gTm ts)) := by
  obtain ⟨h1, h2, h3⟩ := tgs_ok ho
  refine pgImp (pg_tup hc h1 h2 h3) fun v σ H Q q => ?_
  obtain ⟨m, h, d, e, e1, rh, re, rd, eg, k⟩ := q
  cases d with
  | tup ds =>
    cases rd with
    | tup sq r => exact ⟨_, _, rfl, sq, by rw [← r.length]; exact gSeq_len eg, m, h, ds, e, e1, rh, re, r, eg, k⟩
  | _ => cases eg
end
end Mn
namespace Mn
open PySem PySem.Spec PyProof.Rows L2
abbrev kAt (ks : List Key) (i : Nat) : Key := ks.getD i (.inl 0)
def hasK (ks : List Key) (i : Nat) (k : Key) : Bool := (ks.take i).any fun j => decide (k = j)
def cntF (ks : List Key) : Nat → Nat
  | 0 => 0
  | i + 1 => if hasK ks i (kAt ks i) = true then cntF ks i else cntF ks i + 1
theorem cntF_le (ks : List Key) : ∀ i, cntF ks i ≤ i
  | 0 => Nat.le_refl _
  | i + 1 => by
    have := cntF_le ks i
    unfold cntF
    split <;> omega
theorem hasK_succ {ks : List Key} {i : Nat} (hi : i < ks.length) (k : Key) : hasK ks (i + 1) k = (hasK ks i k || decide (k = kAt ks i)) := by
  unfold hasK
  rw [List.take_succ_eq_append_getElem hi, List.any_append, List.any_cons, List.any_nil, Bool.or_false]
  congr 1
  have e : kAt ks i = ks[i] := by simp [kAt, List.getD, hi]
  rw [e]
section
variable {P : Program} {w : World} {A : Around} {R : Result → Shared → Prop} {it D : Addr} {fp wr : List Addr} {G : Array GenState → Array GenState → Prop} {N : Nat} {Pv : Nat → Value → Prop} {St : Nat → Shared → Prop} {ks : List Key}
def Sk (P : Program) (w : World) (D : Addr) (ks : List Key) (i : Nat) (h : Heap) : Prop := h.SetOf (mixKind P w) D (hasK ks i) (cntF ks i)
theorem Sk.on {i : Nat} {h h' : Heap} (q : Sk P w D ks i h) (k : ∀ o, h.get? D = some o → h'.get? D = some o) : Sk P w D ks i h' := by
  obtain ⟨o, es, ep, t, ho, r⟩ := q
  exact ⟨o, es, ep, t, k o ho, r⟩
theorem upK (W : WalksS P w A.in1 it fp wr G N Pv St) (hD : D ∉ fp) (hl : ks.length = N) (hN : N < 4000) (hv : ∀ i v, Pv i v → RelV (kV (kAt ks i)) v) (m : Nat) :
    ∀ (i : Nat) (s : Shared), N - i = m → i ≤ N → St i s → Sk P w D ks i s.heap → (∀ s', Moved (D :: wr) G s s' → Sk P w D ks N s'.heap → R (.ok (.ret .none)) s') →
      codeAny (model P w) A (.builtin "set.update.loop" ⟨[.ref D, .ref it], []⟩) R s := by
  have dw : D ∉ wr := fun z => hD (W.sub _ z)
  have up : ∀ b ∈ wr, b ∈ D :: wr := fun b z => .tail _ z
  induction m with
  | zero =>
    intro i s em le st q fin
    have e : i = N := by omega
    subst e
    refine codeAny_builtin F.entry_set_update_loop ?_
    rw [Around.under_plainId F.plain_set_update_loop _]
    show wpAny _ A.in1 (pyNext (.ref it) >>= _) _ _ s
    refine wpAny_bind (W.done s _ _ st fun s1 mv => ?_)
    show wpAny _ A.in1 (ret Value.none) _ _ s1
    exact wpAny_pure (fin s1 (mv.mono up) (q.on fun o z => mv.heap D o dw z))
  | succ m ih =>
    intro i s em le st q fin
    have lt : i < N := by omega
    refine codeAny_builtin F.entry_set_update_loop ?_
    rw [Around.under_plainId F.plain_set_update_loop _]
    show wpAny _ A.in1 (pyNext (.ref it) >>= _) _ _ s
    refine wpAny_bind (W.item i s _ _ lt st fun v s1 pv st1 mv => ?_)
    have rv := hv i v pv
    have q1 : Sk P w D ks i s1.heap := q.on fun o z => mv.heap D o dw z
    show wpAny _ A.in1 (holding [v] (setAdd D v) >>= _) _ _ s1
    refine wpAny_bind (wpAny_holding ?_)
    unfold setAdd
    refine wpAny_holding ?_
    refine wpAny_bind ((mixKind P w).pyHash (kV_is rv) ?_)
    have room : cntF ks i + 1 < scanBound := by have := cntF_le ks i; unfold scanBound; omega
    refine wpAny_setAddHashed_of (knd := mixKind P w) (s := { s1 with toks := s1.toks + 1 }) (kV_is rv) (key_scan rv) q1 room fun h2 sb q2 => ?_
    have q3 : Sk P w D ks (i + 1) h2 := by
      have ef : hasK ks (i + 1) = fun k' => hasK ks i k' || decide (k' = kAt ks i) := funext fun k => hasK_succ (by omega) k
      unfold Sk
      rw [ef]
      show h2.SetOf (mixKind P w) D _ (if hasK ks i (kAt ks i) = true then cntF ks i else cntF ks i + 1)
      exact q2
    refine wpAny_pure ⟨plainId_quiet F.plain_set_update_loop _, ih (i + 1) _ (by omega) lt (W.frame _ s1 _ _ st1 (Nat.le_succ _) fun b z o e => ?_) q3 fun s3 mv3 q4 => ?_⟩
    · rw [sb.2 b (fun z2 => hD (z2 ▸ z))]; exact e
    · refine fin s3 (Moved.trans W.gtrans ((mv.mono up).then_heap (Nat.le_succ _) fun b o z e => ?_) mv3) q4
      rw [sb.2 b (fun z2 => z (by rw [z2]; exact List.mem_cons_self ..))]; exact e
end
section
variable {P : Program} {w : World} {A : Around} {E : Value → Shared → Prop} {s : Shared}
def vKeys (ks : List Key) (us : List Value) : Prop := Vals (ks.map kV) us
theorem vKeys.get {ks : List Key} {us : List Value} (r : vKeys ks us) {i : Nat} {v : Value} (h : us[i]? = some v) : RelV (kV (kAt ks i)) v := by
  have hi : i < us.length := (List.getElem?_eq_some_iff.mp h).1
  have r0 : Vals (ks.map kV) us := r
  have hl : us.length = ks.length := by rw [← r0.length, List.length_map]
  obtain ⟨w, hw, rw'⟩ := Vals.get r0 (i := i) (x := kV (kAt ks i)) (by simp [kAt, List.getD, show i < ks.length by omega])
  rw [h] at hw
  cases hw
  exact rw'
abbrev e0 (led : Bool) : Obj := { cls := .type "set", dict := none, data := .set #[] 0 (.fresh 0 0 led) }
set_option maxHeartbeats 3200000 in
theorem mkSetK {l : Addr} {us : Array Value} {ks : List Key} {Q : Value → Shared → Prop} (hh : A.handled = none) (hl : s.heap.IsList l us) (hv : vKeys ks us.toList) (h4 : ks.length < 4000)
    (q : ∀ (h2 : Heap) (tk : Nat), Sk P w s.heap.objs.size ks ks.length h2 → (∀ b o, b < s.heap.objs.size → s.heap.get? b = some o → h2.get? b = some o) → Q (.ref s.heap.objs.size) { s with heap := h2, toks := tk }) :
    wpAny (model P w) A (call (.type "set") [.ref l]) Q E s := by
  have hul : us.size = ks.length := by rw [← Array.length_toList, ← hv.length, List.length_map]
  obtain ⟨c, tl, mro0⟩ := F.called_set.mro
  have made0 := F.called_set.made
  have sub0 := F.called_set.sub
  refine wpAny_call (codeAny_of_tree ?_)
  show wpAny _ _ (callAny (.type "set") _) _ _ _
  refine wpAny_pure ⟨Code.quiet_builtin _ (by decide +kernel), codeAny_builtin F.entry_type_call ?_⟩
  rw [Around.under_plain (weight_type_call_type "set" [.ref l] []) rfl]
  have nt0 := F.called_set.notType
  have cc0 := F.called_set.canCreate
  have tc0 := F.typeCall_set_1 (.ref l)
  repeat (any_goals (first | assumption | wp_step))
  refine codeAny_mono (code_set_new_1 (.ref l) (E := E) (Q₁ := fun x s1 => ∃ led, x = .ref s.heap.objs.size ∧ s1 = { s with heap := s.heap.push (e0 led) }) fun led => ⟨led, rfl, rfl⟩) fun r1 s1 g1 => ?_
  cases r1 with
  | error e => exact g1
  | ok fl1 =>
    cases fl1 with
    | ret x =>
      obtain ⟨led, rfl, rfl⟩ := g1
      have at0 : (s.heap.push (e0 led)).get? s.heap.objs.size = some (e0 led) := Heap.get?_push_size _ rfl
      have ty0 : Shared.TypeIs { s with heap := s.heap.push (e0 led) } (.ref s.heap.objs.size) "set" := ⟨_, at0, rfl⟩
      have lk0 := F.called_set.init.lookup
      have bi0 := F.called_set.init.bind (.ref s.heap.objs.size)
      repeat (any_goals (first | assumption | wp_step))
      refine codeAny_mono (codeAny_call_builtin (R := wants (fun x s2 => x = .none ∧ ∃ h2 tk, s2 = { s with heap := h2, toks := tk } ∧ Sk P w s.heap.objs.size ks ks.length h2 ∧
        ∀ b o, b < s.heap.objs.size → s.heap.get? b = some o → h2.get? b = some o) E) F.called_set.init.plain F.entry_set_init (check_set_init_1 ty0 ?_)) fun r2 s2 g2 => ?_
      · obtain ⟨⟨lc, ld, ldt, lsl⟩, atl, cl0, nl, dl0⟩ := hl
        simp only at cl0 dl0
        subst cl0; subst dl0
        have atl2 : (s.heap.push (e0 led)).get? l = some { cls := .type "list", dict := ld, data := .seq us nl, slots := lsl } := Heap.get?_push_of_some _ atl
        have su1 := F.sub_list_set
        have su2 := F.sub_list_frozenset
        have nd0 : (Value.type "list" == Value.type "dict") = false := by decide
        have il0 : (s.heap.push (e0 led)).IsList l us := ⟨_, atl2, rfl, nl, rfl⟩
        unfold Builtin.«set.__init__» noKeywords Builtin.Frozenset.updateFrom
        generalize gpi : pyIter = PI
        wp_walk
        subst gpi
        refine wpAny_pyIter_list il0 ?_
        refine wpAny_bind (wpAny_runValue ?_)
        have ltl : l < s.heap.objs.size := Heap.lt_size atl
        have hh3 : A.in1.in1.in1.handled = none := by simp [hh]
        have sz0 : (s.heap.push (e0 led)).objs.size = s.heap.objs.size + 1 := Heap.size_push ..
        have n1 : l ≠ (s.heap.push (e0 led)).objs.size := fun z => Nat.ne_of_lt (Nat.lt_succ_of_lt ltl) (z.trans sz0)
        have n2 : s.heap.objs.size ∉ [(s.heap.push (e0 led)).objs.size, l] := fun z => by
          rcases List.mem_cons.mp z with z | z
          · exact Nat.ne_of_lt (Nat.lt_succ_self _) (z.trans sz0)
          · exact Nat.ne_of_gt ltl (List.mem_singleton.mp z)
        refine upK (ks := ks) (P := P) (w := w) ((Walks.list hh3 _ l n1 us).toS) n2 hul.symm (by omega) (fun i v pv => hv.get (by rw [Array.getElem?_toList]; exact pv)) (us.size - 0) 0 _ (by omega) (Nat.zero_le _) ⟨⟨_, Heap.get?_push_size _ rfl, rfl, rfl⟩, il0.push _⟩ ?start ?stop
        case start =>
          have g0 := Heap.get?_push_of_some { cls := .type "list_iterator", data := .fields #[.ref l, .int 0 0] } at0
          have ef : hasK ks 0 = fun _ => false := funext fun k => by
            unfold hasK
            rw [List.take_zero]
            rfl
          unfold Sk
          rw [ef]
          exact ⟨_, #[], 0, _, g0, ⟨rfl, rfl, rfl⟩, rfl, (fun x hx => by simp at hx), (fun x => by simp), by decide, by rfl, rfl⟩
        case stop =>
          intro s3 mv q3
          obtain ⟨h3, g3, d3, tk3, os3⟩ := s3
          have eg := mv.gens
          have ed := mv.drawn
          have eo := mv.os
          simp only at eg ed eo
          subst eg; subst ed; subst eo
          show wpAny _ _ _ _ _ _
          refine wpAny_pure ?_
          show wpAny _ _ (ret Value.none) _ _ _
          refine wpAny_pure ⟨rfl, h3, tk3, rfl, by rw [← hul]; exact q3, fun b o lb e => ?_⟩
          refine mv.heap b o (fun z => ?_) (Heap.get?_push_of_some _ (Heap.get?_push_of_some _ e))
          rcases List.mem_cons.mp z with z | z
          · exact Nat.ne_of_lt lb z
          · exact Nat.ne_of_lt (Nat.lt_succ_of_lt lb) ((List.mem_singleton.mp z).trans sz0)
      · cases r2 with
        | error e => exact g2
        | ok fl2 =>
          cases fl2 with
          | ret x =>
            obtain ⟨rfl, h2, tk, rfl, q2, k2⟩ := g2
            repeat (any_goals (first | assumption | wp_step))
            exact q _ _ q2 k2
          | _ => exact g2.elim
    | _ => exact g1.elim
end
section
variable {X : Cx}
def tSetK (K : PySem.W.Frag) (ta : TE) : TE := fun σ H Q => ta σ H fun x H1 => ∃ (l : Addr) (ks : List Key), x = .ref l ∧ SqL K H1 l (ks.map kV) ∧ ks.length < 4000 ∧ Q (.int (cntF ks ks.length : Nat)) H1
theorem pe_setK {a : Expr} {ta : TE} {p p2 q pos : Pos} (hc : X.calm = true) (g1 : Gl X "len") (m1 : X.mg "len" = none) (g2 : Gl X "set") (m2 : X.mg "set" = none) (ha : PE X a ta)
    (na : starEach [a] X.env = (false, eval a X.env) :: starEach [] X.env := by rfl) : PE X (.Call (.Name "len" p) [.Call (.Name "set" p2) [a] [] q] [] pos) (tSetK X.K ta) := by
  refine ⟨fun pins s σ H Q I h => ?_⟩
  refine Call_ (ld_blt I g1 m1 boot_len ?_)
  refine callWith_builtin1 (args_cons ?_ rfl) rfl rfl
  refine Call_ (ld_blt I g2 m2 boot_set ?_)
  refine callWith_type1 (args_cons (thn (ha.run pins s σ H _ I h) fun v s1 ⟨x, H1, I1, r1, q1⟩ => args_nil ?_) na) na rfl
  obtain ⟨l, ks, rfl, sq, h4, q1⟩ := q1
  cases r1
  obtain ⟨us, r, pl, hz⟩ := I1.list sq
  have r' : vKeys ks us.toArray.toList := by
    show Vals _ _
    simpa using r
  refine mkSetK (I1.ok.hd hc) pl.isList r' h4 fun h2 tk q2 k2 => args_nil ?_
  obtain ⟨o, es, ep, t, ho, hex, hd, _, _, _, hf, hn⟩ := q2
  have I2 : Inv X pins σ H1 { s1 with heap := h2, toks := tk } := I1.kept fun b o e => k2 b o (Heap.lt_size e) e
  have le := cntF_le ks ks.length
  exact call_len_set ho hex hd hf (by rw [hn]; omega) ⟨.int (cntF ks ks.length : Nat), H1, I2.tok _, ⟨_, by rw [hn]⟩, q1⟩
end
def dKey : D → Option Key
  | .int i => some (.inl i)
  | .str x => some (.inr x)
  | _ => none
def dKeys : List D → Option (List Key)
  | [] => some []
  | d :: ds => match dKey d, dKeys ds with
    | some k, some ks => some (k :: ks)
    | _, _ => none
theorem dKeys_rd {K : PySem.W.Frag} {m : Nat → Addr} {N : Nat} {H : Hp} : ∀ {ds : List D} {vs : List V} {ks : List Key}, RDs K m N H ds vs → dKeys ds = some ks → vs = ks.map kV
  | _, _, _, .nil, h => by cases h; rfl
  | d :: ds, _, ks, .cons a r, h => by
    unfold dKeys at h
    split at h
    · rename_i k ks' h1 h2
      cases h
      rw [List.map_cons, ← dKeys_rd r h2]
      congr 1
      cases d with
      | int i => cases h1; cases a; rfl
      | str x => cases h1; cases a; rfl
      | _ => cases h1
    · cases h
def fLenS : FD := fun ds h => match ds with
  | [.ref n] => match lstAt h n with
    | some xs => match dKeys xs with
      | some ks => if ks.length < 4000 then .ok (.int (cntF ks ks.length : Nat)) h else .stuck
      | none => .stuck
    | none => .stuck
  | _ => .stuck
end Mn
namespace Mn
open PySem PySem.Spec PyProof.Rows L2
abbrev Cl := Value × Option Nat × (Addr → Value → Option Addr → TS)
def offE : Option Nat → Ends → Ends
  | none, Ed => Ed
  | some i, Ed => ⟨fun τ L => Ed.nx (τ.set i none) L, Ed.rt, fun τ L => Ed.bk (τ.set i none) L, fun τ L => Ed.ct (τ.set i none) L⟩
def onS : Option Nat → Addr → L2.St → L2.St
  | none, _, τ => τ
  | some i, ad, τ => τ.set i (some (.ref ad))
def wMs (K : PySem.W.Frag) (Wout : WX) (Ed : Ends) : List Cl → WX
  | [] => Wout
  | (c, sl, ts) :: rs => fun ty dx τ L => ∃ bv, PySem.W.exmOne K ty c = some bv ∧ (bv = true → ∀ ad, L ad = none → ts ad ty dx (offE sl Ed) (onS sl ad τ) L) ∧ (bv = false → wMs K Wout Ed rs ty dx τ L)
abbrev SuOk (X : Cx) (b₀ : Stmt) (suite : List Stmt) (ts : Addr → Value → Option Addr → TS) : Prop :=
  ∀ (ad : Addr) (oc : Obj) (ty : Value) (dx : Option Addr) (pn : List (Addr × Obj)), L2N.Zn ty dx oc → (∃ vs, oc.data = .fields vs) → PSs (X.suite ad ((ad, oc) :: pn)) (b₀ :: suite) (ts ad ty dx)
inductive HdsM (X : Cx) : List ExceptHandler → List Cl → Prop
  | nil : HdsM X [] []
  | one {x : Str} {c : Value} {ts : Addr → Value → Option Addr → TS} {b₀ : Stmt} {suite : List Stmt} {np pos' : Pos} {hds : List ExceptHandler} {l : List Cl} (hc : Names X x c) (hsu : SuOk X b₀ suite ts) (r : HdsM X hds l) :
      HdsM X (.ExceptHandler (some (.Name x np)) none (b₀ :: suite) pos' :: hds) ((c, none, ts) :: l)
  | as_ {x n : Str} {i : Nat} {c : Value} {ts : Addr → Value → Option Addr → TS} {b₀ : Stmt} {suite : List Stmt} {np pos' : Pos} {hds : List ExceptHandler} {l : List Cl} (hi : X.N[i]? = some n) (hln : X.env.kindOf n = some .local) (hc : Names X x c) (hsu : SuOk X b₀ suite ts) (r : HdsM X hds l) :
      HdsM X (.ExceptHandler (some (.Name x np)) (some n) (b₀ :: suite) pos' :: hds) ((c, some i, ts) :: l)
section
variable {X : Cx} {body : List Stmt} {h₀ : ExceptHandler} {hds : List ExceptHandler} {l : List Cl} {pos : Pos} {tb : WX → TS} {Wout : WX}
theorem ps_tries (hs : X.stack = X.env :: X.outer) (hf : X.env.frame = some X.env.locals) (hN : X.N.Nodup) (tk : L2N.Takes X Wout)
    (hb : ∀ (W : WX) (pn : List (Addr × Obj)) (xw : Value → Shared → Prop), L2N.Takes (X.tr pn xw) W → PassesOwn (model X.prog X.w) X.A X.env xw → PSs (X.tr pn xw) body (tb W))
    (hh : HdsM X (h₀ :: hds) l) : PS X (.Try body (h₀ :: hds) [] [] pos) (fun Ed τ L => tb (wMs X.K Wout Ed l) Ed τ L) := by
  refine ⟨fun po t0 τ L Ed J0 q0 => ?_⟩
  have okk := J0.ok
  have wfr : X.A.frames = some (X.env :: X.outer) := by rw [okk.frames, hs]
  refine wpAny_Try_except ?_
  refine wpAny_mono ((hb (wMs X.K Wout Ed l) (X.pn ++ po) (fun er t₁ => wpAny (model X.prog X.w) X.A (noteFrame er X.env) (fun _ t₂ => wpAny (model X.prog X.w) X.A (setFlight er none) (fun _ t₃ =>
    wpAny (model X.prog X.w) X.A (handleBy er X.env (h₀ :: hds)) (SP X po Ed) X.xe t₃) X.xe t₂) X.xe t₁) (fun uu tz got => ?_) PassesOwn.looking).run [] t0 τ L Ed (J0.toTry _) q0) (fun fo t1 spq => ?_) (fun er t1 ex => ex)
  · -- the catch
    obtain ⟨ad, Bw, ti, pz, τz, Lz, ty, dx, rfl, Jz, nw, ua, sk, nn, ow, eg, ww⟩ := got
    have J1 : Inv X po τz Lz ti := Jz.ofTry okk
    have skz : Sky Bw (X.env :: X.outer) ad (L2N.Zn ty dx) X.env.locals tz.heap := by rw [← hs]; exact sk
    show wpAny (model X.prog X.w) X.A (noteFrame (.ref ad) X.env) _ _ _
    refine L2N.Sky.land L2N.Zn.steady wfr hf skz fun k3 g3 u3 => ?_
    have Jc : Inv X po τz Lz { tz with heap := k3 } := J1.landed nw g3.1 (ua.trans u3) ow eg
    obtain ⟨oc, vc, ec, zc, dc⟩ := g3.there
    have noF : ∀ {q0 : Heap} {o : Obj} {vx : Array Value}, q0.FunFrames Bw (X.env :: X.outer) → q0.get? ad = some o → o.data = .fields vx → ad ∉ frs (X.env :: X.outer) := fun {q0 o vx} ff er dd mm => by
      obtain ⟨_, o', e', hnf⟩ := ff.mem mm
      rw [er] at e'; cases e'
      exact hnf _ dd
    have nof := noF g3.2.2.1 ec dc
    have n1 : ad ≠ X.env.locals := fun z => nof (List.mem_filterMap.mpr ⟨X.env, List.mem_cons_self, by rw [hf, z]⟩)
    have n2 : ad ∉ X.fs := fun mm => by
      obtain ⟨er, ex, qq⟩ := List.mem_filterMap.mp mm
      exact nof (List.mem_filterMap.mpr ⟨er, List.mem_cons_of_mem _ ex, qq⟩)
    have Sc := Jc.suite ec dc nn n1 n2
    have run1 : ∀ {cs' : List ExceptHandler} {ls' : List Cl}, HdsM X cs' ls' → wMs X.K Wout Ed ls' ty dx τz Lz →
        wpAny (model X.prog X.w) X.A (handleBy (.ref ad) X.env cs') (SP X po Ed) X.xe { tz with heap := k3 } := by
      intro cs' ls' kk
      induction kk with
      | nil =>
        intro ww
        refine wpAny_handleBy_nil ?_
        obtain ⟨m1, m2, m3, ox, vx, Tx, oTx, tsx, ex, zx, dxx, f1, rr1⟩ := id g3
        unfold PySem.passOn
        refine wpAny_bind (wpAny_field ex dxx f1 ?_)
        rw [if_neg (show ¬ ((Value.ref Tx == Value.none) = true) from by simp)]
        have out1 : wpAny (model X.prog X.w) X.A (setFlight (.ref ad) X.env.frame) (fun _ t4 => wpAny (model X.prog X.w) X.A (throw (.ref ad) : Sem Flow) (SP X po Ed) X.xe t4) X.xe { tz with heap := k3 } := by
          rw [hf]
          refine HandSPX.setFlight_upZ g3 fun k4 v4 u4 => wpAny_throw (tk _ _ ?_)
          exact ⟨ad, Bw, ti, po, τz, Lz, ty, dx, rfl, J1, nw, (ua.trans u3).trans u4, .inr (.inr (by rw [hs]; exact v4)), nn, ow, eg, ww⟩
        first
          | exact wpAny_bind (wpAny_pure (wpAny_bind out1))
          | exact wpAny_bind out1
      | @one x c ts b₀ suite np pos' hds2 l2 hc hsu rs ih =>
        intro ww
        obtain ⟨bv, em1, yes1, no1⟩ := ww
        refine wpAny_handleBy_cons (codeAny_handlers_test ?_) (by intro qq; cases qq)
        have lt1 : PySem.W.Looks (model X.prog X.w) k3 (typeOf (.ref ad)) ty := fun Ax Qz Ez t0 kx qq => wpAny_typeOf_ref (kx _ _ ec) (by rw [zc.1]; exact qq)
        have lm1 := PySem.W.exm_one (M := model X.prog X.w) (Jc.kIn) lt1 em1
        have tst : ∀ {Qz : Value → Shared → Prop} {Ez : Value → Shared → Prop}, Qz c { tz with heap := k3 } → wpAny (model X.prog X.w) (X.A.mark (some (.ref ad))) (eval (.Name x np) X.env) Qz Ez { tz with heap := k3 } := fun {Qz Ez} qq => by
          obtain ⟨gg, dbg, mm | ⟨mm, vv, nnn⟩⟩ := hc
          · exact ld_glob (X := X.suite ad ((ad, oc) :: (X.pn ++ po))) Sc gg mm qq dbg
          · exact ld_blt (X := X.suite ad ((ad, oc) :: (X.pn ++ po))) Sc gg mm vv qq nnn dbg
        refine tst (lm1.here ?_)
        cases bv with
        | true =>
          refine codeAny_handlers_suite ?_
          refine HandSPX.lands_againZ g3 fun k4 g4 u4 => ?_
          have Jd : Inv X po τz Lz { tz with heap := k4 } := J1.landed nw g4.1 ((ua.trans u3).trans u4) ow eg
          obtain ⟨od, vd, ed, zd, dd4⟩ := g4.there
          have Sd := Jd.suite ed dd4 nn n1 n2
          refine wpAny_mono ((hsu ad od ty dx (X.pn ++ po) zd ⟨_, dd4⟩).run [] _ _ Lz _ Sd (yes1 rfl ad nn)) (fun fo t6 spq => ?_) (fun _ _ z => False.elim z)
          cases fo with
          | next =>
            obtain ⟨τ6, L6, Se, qe⟩ := spq
            exact ⟨_, _, Se.unsuite okk, qe⟩
          | brk =>
            obtain ⟨τ6, L6, Se, qe⟩ := spq
            exact ⟨_, _, Se.unsuite okk, qe⟩
          | cont =>
            obtain ⟨τ6, L6, Se, qe⟩ := spq
            exact ⟨_, _, Se.unsuite okk, qe⟩
          | ret uu =>
            obtain ⟨ve, τ6, L6, Se, re6, qe⟩ := spq
            exact ⟨_, _, _, Se.unsuite okk, re6, qe⟩
        | false =>
          show wpAny _ X.A (handleBy (.ref ad) X.env hds2) _ _ _
          exact ih (no1 rfl)
      | @as_ x n i c ts b₀ suite np pos' hds2 l2 hi hln hc hsu rs ih =>
        intro ww
        obtain ⟨bv, em1, yes1, no1⟩ := ww
        refine wpAny_handleBy_cons (codeAny_handlers_test ?_) (by intro qq; cases qq)
        have lt1 : PySem.W.Looks (model X.prog X.w) k3 (typeOf (.ref ad)) ty := fun Ax Qz Ez t0 kx qq => wpAny_typeOf_ref (kx _ _ ec) (by rw [zc.1]; exact qq)
        have lm1 := PySem.W.exm_one (M := model X.prog X.w) (Jc.kIn) lt1 em1
        have tst : ∀ {Qz : Value → Shared → Prop} {Ez : Value → Shared → Prop}, Qz c { tz with heap := k3 } → wpAny (model X.prog X.w) (X.A.mark (some (.ref ad))) (eval (.Name x np) X.env) Qz Ez { tz with heap := k3 } := fun {Qz Ez} qq => by
          obtain ⟨gg, dbg, mm | ⟨mm, vv, nnn⟩⟩ := hc
          · exact ld_glob (X := X.suite ad ((ad, oc) :: (X.pn ++ po))) Sc gg mm qq dbg
          · exact ld_blt (X := X.suite ad ((ad, oc) :: (X.pn ++ po))) Sc gg mm vv qq nnn dbg
        refine tst (lm1.here ?_)
        cases bv with
        | true =>
          refine codeAny_handlers_suite_as ?_
          refine HandSPX.lands_againZ g3 fun k4 g4 u4 => ?_
          have Jd : Inv X po τz Lz { tz with heap := k4 } := J1.landed nw g4.1 ((ua.trans u3).trans u4) ow eg
          obtain ⟨od, vd, ed, zd, dd4⟩ := g4.there
          have Sd := Jd.suite ed dd4 nn n1 n2
          refine store_ok (X := X.suite ad ((ad, od) :: (X.pn ++ po))) (v := .ref ad) Sd hN hi (.inl hln) rfl (fun s5 S5 => ?_) (.inr hln)
          refine wpAny_mono ((hsu ad od ty dx (X.pn ++ po) zd ⟨_, dd4⟩).run [] s5 _ Lz _ S5 (yes1 rfl ad nn)) (fun fo t6 spq => ?_) (fun _ _ z => False.elim z)
          have end_ : ∀ {τ6 : L2.St} {L6 : Hp} {Qz : Shared → Prop}, Inv (X.suite ad ((ad, od) :: (X.pn ++ po))) [] τ6 L6 t6 → (∀ s7, Inv X po (τ6.set i none) L6 s7 → Qz s7) →
              wpAny (model X.prog X.w) X.A (do bindName X.env n .none; unbindBehindTheSuite X.env n pos') (fun _ s7 => Qz s7) X.xe t6 := fun {τ6 L6 Qz} Se hq => gone_ok (Se.unsuite okk) hN hi hln hq
          cases fo with
          | next =>
            obtain ⟨τ6, L6, Se, qe⟩ := spq
            exact end_ Se fun s7 J7 => ⟨_, _, J7, qe⟩
          | brk =>
            obtain ⟨τ6, L6, Se, qe⟩ := spq
            exact end_ Se fun s7 J7 => ⟨_, _, J7, qe⟩
          | cont =>
            obtain ⟨τ6, L6, Se, qe⟩ := spq
            exact end_ Se fun s7 J7 => ⟨_, _, J7, qe⟩
          | ret uu =>
            obtain ⟨ve, τ6, L6, Se, re6, qe⟩ := spq
            exact end_ Se fun s7 J7 => ⟨_, _, _, J7, re6, qe⟩
        | false =>
          show wpAny _ X.A (handleBy (.ref ad) X.env hds2) _ _ _
          exact ih (no1 rfl)
    exact run1 hh ww
  · cases fo with
    | next =>
      obtain ⟨τz, Lz, Jz, qq⟩ := spq
      exact wpAny_execs_nil ⟨τz, Lz, Jz.ofTry okk, qq⟩
    | brk =>
      obtain ⟨τz, Lz, Jz, qq⟩ := spq
      exact ⟨τz, Lz, Jz.ofTry okk, qq⟩
    | cont =>
      obtain ⟨τz, Lz, Jz, qq⟩ := spq
      exact ⟨τz, Lz, Jz.ofTry okk, qq⟩
    | ret uu =>
      obtain ⟨v, τz, Lz, Jz, rs, qq⟩ := spq
      exact ⟨v, τz, Lz, Jz.ofTry okk, rs, qq⟩
end
end Mn
namespace Mn
open PySem L2
def tryGo (sub : Nat → Nat → Option Bool) : List Hd → Xc → Ev → Hh → RS
  | [], y, e, h => .exc y e h
  | hd :: r, y, e, h => match sub y.cls hd.cls with
    | some true => if slotOk e hd.slot = true then match hd.suite y (clr e hd.slot) h with
        | .go f e2 h2 => .go f (clr e2 hd.slot) h2
        | _ => .stuck
      else .stuck
    | some false => tryGo sub r y e h
    | none => .stuck
def sTryM (sub : Nat → Nat → Option Bool) (b : SD) (hds : List Hd) : SD := fun e h => match b e h with
  | .exc y e1 h1 => tryGo sub hds y e1 h1
  | r => r
section
variable {X : Cx} {g : G} {cv : Nat → Value} {fn : Nat → Str} {W : WX} {pos : Pos} {f : SD}
def tsOf (X : Cx) (cv : Nat → Value) (fn : Nat → Str) (hd : Hd) : Addr → Value → Option Addr → TS := match hd.slot with
  | none => fun _ _ _ D σ H => ∃ y : Xc, PS_ (FX X cv fn none) (fun _ _ _ _ => False) (hd.suite y) D σ H
  | some i => fun a cls d D σ H => ∃ y : Xc, cls = cv y.cls ∧ (y.fs = [] → d = none) ∧ PS_ (FX X cv fn (some (i, a, y, d))) (fun _ _ _ _ => False) (hd.suite y) D σ H
def clOf (X : Cx) (cv : Nat → Value) (fn : Nat → Str) (hd : Hd) : Cl := (cv hd.cls, hd.slot, tsOf X cv fn hd)
inductive HdD (X : Cx) (cv : Nat → Value) (fn : Nat → Str) : List ExceptHandler → List Hd → Prop
  | nil : HdD X cv fn [] []
  | one {x : Str} {b₀ : Stmt} {suite : List Stmt} {np pos' : Pos} {hs : List ExceptHandler} {hds : List Hd} {c : Nat} {fs : Xc → SD} (hc : Names X x (cv c))
      (hsu : ∀ (a : Addr) (oe : Obj) (x : Xc) (pn : List (Addr × Obj)), PSs (X.suite a ((a, oe) :: pn)) (b₀ :: suite) (PS_ (FX X cv fn none) (fun _ _ _ _ => False) (fs x))) (r : HdD X cv fn hs hds) :
      HdD X cv fn (.ExceptHandler (some (.Name x np)) none (b₀ :: suite) pos' :: hs) (⟨c, none, fs⟩ :: hds)
  | as_ {x n : Str} {i : Nat} {b₀ : Stmt} {suite : List Stmt} {np pos' : Pos} {hs : List ExceptHandler} {hds : List Hd} {c : Nat} {fs : Xc → SD} (hi : X.N[i]? = some n) (hln : X.env.kindOf n = some .local) (hc : Names X x (cv c))
      (hsu : ∀ (a : Addr) (oe : Obj) (x : Xc) (d : Option Addr) (pn : List (Addr × Obj)), L2N.Zn (cv x.cls) d oe → (∃ vs, oe.data = .fields vs) → (x.fs = [] → d = none) → PSs (X.suite a ((a, oe) :: pn)) (b₀ :: suite) (PS_ (FX X cv fn (some (i, a, x, d))) (fun _ _ _ _ => False) (fs x))) (r : HdD X cv fn hs hds) :
      HdD X cv fn (.ExceptHandler (some (.Name x np)) (some n) (b₀ :: suite) pos' :: hs) (⟨c, some i, fs⟩ :: hds)
theorem HdD.ok {hs : List ExceptHandler} {hds : List Hd} (k : HdD X cv fn hs hds) : HdsM X hs (hds.map (clOf X cv fn)) := by
  induction k with
  | nil => exact .nil
  | one hc hsu r ih => exact .one hc (fun a oe cls d pn hz hfl => ⟨fun pins s σ H D I ⟨y, q⟩ => (hsu a oe y pn).run pins s σ H D I q⟩) ih
  | as_ hi hln hc hsu r ih => exact .as_ hi hln hc (fun a oe cls d pn hz hfl => ⟨fun pins s σ H D I ⟨y, e1, e2, q⟩ => by
      subst e1
      exact (hsu a oe y d pn hz hfl e2).run pins s σ H D I q⟩) ih
theorem tries_w {sub : Nat → Nat → Option Bool} (hsub : ∀ c1 c2 b, sub c1 c2 = some b → PySem.W.exmOne X.K (cv c1) (cv c2) = some b) {D : Ends} {m : Nat → Addr} {h : Hh} {H : Hp} {y : Xc} {e1 : Ev} {h1 : Hh} : ∀ {hds : List Hd},
    PSo (FX X cv fn none) W D m h H (tryGo sub hds y e1 h1) → ∀ m1 H1 σ1 cls dd, Ge m h H m1 h1 H1 → RH (FX X cv fn none) m1 h1 H1 → RE (FX X cv fn none) m1 h1.length H1 e1 σ1 → RX (FX X cv fn none) m1 h1.length H1 y cls dd →
      wMs X.K W D (hds.map (clOf X cv fn)) cls dd σ1 H1
  | [], p => fun m1 H1 σ1 cls dd g1 rh1 re1 rx => p m1 H1 σ1 cls dd g1 rh1 re1 rx
  | hd :: hds, p => fun m1 H1 σ1 cls dd g1 rh1 re1 rx => by
    unfold tryGo at p
    cases qs : sub y.cls hd.cls with
    | none => rw [qs] at p; exact p.elim
    | some k =>
      rw [qs] at p
      obtain ⟨ec, rx'⟩ := rx
      refine ⟨k, by rw [ec]; exact hsub _ _ _ qs, fun ek ad had => ?_, fun ek => ?_⟩
      · subst ek
        simp only at p
        by_cases hok : slotOk e1 hd.slot = true
        case neg => rw [if_neg hok] at p; exact p.elim
        rw [if_pos hok] at p
        obtain ⟨c, sl, fs⟩ := hd
        have p1 := PSo.base p g1
        cases sl with
        | none =>
          refine ⟨y, m1, e1, h1, rh1, re1, ?_⟩
          show PSo (FX X cv fn none) (fun _ _ _ _ => False) D m1 h1 H1 (fs y e1 h1)
          cases qg : fs y e1 h1 with
          | stuck => simp only [clr, qg] at p1; exact p1.elim
          | exc x e2 h2 => simp only [clr, qg] at p1; exact p1.elim
          | go fl e2 h2 => simp only [clr, qg] at p1; exact p1.flow
        | some i =>
          have hi' : i < σ1.length := by
            rw [← re1.len]
            exact of_decide_eq_true hok
          refine ⟨y, ec, rx'.1, m1, e1.set i none, h1, rh1.ex, ⟨?_, fun j d hj => ?_, fun j b y' d' hj => ?_⟩, ?_⟩
          · show (e1.set i none).length = (σ1.set i _).length
            rw [List.length_set, List.length_set]; exact re1.len
          · show ∃ v, (σ1.set i _)[j]? = some (some v) ∧ _
            by_cases hij : i = j
            · subst hij
              by_cases hl : i < e1.length
              · rw [List.getElem?_set_self hl] at hj; cases hj
              · rw [List.getElem?_eq_none (by rw [List.length_set]; omega)] at hj; cases hj
            · rw [List.getElem?_set_ne hij] at hj ⊢
              exact re1.at_ j d hj
          · cases hj
            exact ⟨List.getElem?_set_self hi', rx'⟩
          · show PSo (FX X cv fn (some (i, ad, y, dd))) (fun _ _ _ _ => False) (offE (some i) D) m1 h1 H1 (fs y (e1.set i none) h1)
            cases qg : fs y (e1.set i none) h1 with
            | stuck => simp only [clr, qg] at p1; exact p1.elim
            | exc x e2 h2 => simp only [clr, qg] at p1; exact p1.elim
            | go fl e2 h2 =>
              simp only [clr, qg] at p1
              have back : ∀ {m' : Nat → Addr} {N : Nat} {H' : Hp} {σ' : L2.St}, RE (FX X cv fn (some (i, ad, y, dd))) m' N H' e2 σ' → RE (FX X cv fn none) m' N H' (e2.set i none) (σ'.set i none) := fun {m' N H' σ'} r =>
                RE.drop1 (T := FX X cv fn none) ⟨r.len, r.at_, fun _ _ _ _ z => by cases z⟩ i (fun _ _ z => by cases z) none
              cases fl with
              | nx => exact fun m2 H2 σ2 g2 rh2 re2 => p1 m2 H2 _ g2 rh2.ex (back re2)
              | bk => exact fun m2 H2 σ2 g2 rh2 re2 => p1 m2 H2 _ g2 rh2.ex (back re2)
              | ct => exact fun m2 H2 σ2 g2 rh2 re2 => p1 m2 H2 _ g2 rh2.ex (back re2)
              | rt d => exact fun m2 H2 v2 g2 rh2 re2 => p1 m2 H2 _ g2 rh2.ex re2
      · subst ek
        exact tries_w hsub p m1 H1 σ1 cls dd g1 rh1 re1 ⟨ec, rx'⟩
theorem s_tries {body : List Stmt} {h₀ : ExceptHandler} {hs : List ExceptHandler} {hds : List Hd} {sub : Nat → Nat → Option Bool} (hst : X.stack = X.env :: X.outer) (hf : X.env.frame = some X.env.locals) (hN : X.N.Nodup) (tk : L2N.Takes X W)
    (hsub : ∀ c1 c2 b, sub c1 c2 = some b → PySem.W.exmOne X.K (cv c1) (cv c2) = some b)
    (hb : ∀ (W : WX) (pn : List (Addr × Obj)) (xe : Value → Shared → Prop), L2N.Takes (X.tr pn xe) W → PassesOwn (model X.prog X.w) X.A X.env xe → PSs (X.tr pn xe) body (PS_ (FX X cv fn none) W f))
    (hh : HdD X cv fn (h₀ :: hs) hds) : PS X (.Try body (h₀ :: hs) [] [] pos) (PS_ (FX X cv fn none) W (sTryM sub f hds)) := by
  refine psImp (ps_tries hst hf hN tk hb hh.ok) fun D σ H q => ?_
  obtain ⟨m, e, h, rh, re, p⟩ := q
  refine ⟨m, e, h, rh, re, ?_⟩
  unfold sTryM at p
  cases qf : f e h with
  | stuck => rw [qf] at p; exact p
  | go fl e1 h1 => rw [qf] at p; exact p.flow
  | exc y e1 h1 =>
    rw [qf] at p
    intro m1 H1 σ1 cls dd g1 rh1 re1 rx
    exact tries_w hsub p m1 H1 σ1 cls dd g1 rh1 re1 rx
end
end Mn
namespace Mn
open PySem L2
def cstOf : Expr → Option D
  | .Constant .none _ _ => some .non
  | .Constant (.bool b) _ _ => some (.bl b)
  | .Constant (.int i) _ _ => some (.int i)
  | .Constant (.str s) _ _ => some (.str s)
  | _ => none
def cstV : D → V
  | .bl b => .bl b
  | .int i => .int i
  | .str s => .str s
  | _ => .non
def cstsOf : List Expr → Option (List D)
  | [] => some []
  | e :: es => match cstOf e, cstsOf es with
    | some d, some ds => some (d :: ds)
    | _, _ => none
def dspOf : List (Option Expr) → List Expr → Option (List (Str × List D))
  | [], [] => some []
  | some (.Constant (.str s) _ _) :: ks, .List es _ :: vs => match cstsOf es, dspOf ks vs with
    | some ds, some r => some ((s, ds) :: r)
    | _, _ => none
  | _, _ => none
def dDsp (kvs : List (Str × List D)) (i : Nat) (k : Int) : ED := fun e h => match e[i]? with
  | some (some (.tup ds)) => match L2.atI ds k with
    | some (.str s) => match kvs.lookup s with
      | some cs => .ok (.ref h.length) (h ++ [.lst cs])
      | none => .stuck
    | _ => .stuck
  | _ => .stuck
def dspOk (kvs : List (Str × List D)) : Bool := decide ((kvs.map (·.1)).Nodup) && !kvs.isEmpty && decide (kvs.length ≤ 15) && kvs.all fun kv => decide (kv.2.length ≤ szl)
section
variable {X : Cx} {cv : Nat → Value} {fn : Nat → Str} {xs : Xs} {W : WX} {pos : Pos}
theorem cst_rd {e : Expr} {d : D} (h : cstOf e = some d) {K : PySem.W.Frag} {m : Nat → Addr} {N : Nat} {H : Hp} : RD K m N H d (cstV d) := by
  unfold cstOf at h
  split at h <;> first
    | (cases h; done)
    | (cases h; first | exact .non | exact .bl _ | exact .int _ | exact .str _)
theorem cst_pe {e : Expr} {d : D} (h : cstOf e = some d) : PE X e (tC (cstV d)) := by
  unfold cstOf at h
  split at h <;> first
    | (cases h; done)
    | (cases h; first | exact pe_non | exact pe_bl | exact pe_int | exact pe_str)
def tVs (vs : List V) : TA := fun _ H Q => Q vs H
theorem csts_pa : ∀ {es : List Expr} {ds : List D}, cstsOf es = some ds → PA X es (tVs (ds.map cstV))
  | [], _, h => by
    cases h
    exact paImp pa_nil fun σ H Q q => q
  | e :: es, _, h => by
    unfold cstsOf at h
    split at h
    · rename_i d ds h1 h2
      cases h
      refine paImp (pa_cons (cst_pe h1) (csts_pa h2) ?_) fun σ H Q q => q
      unfold cstOf at h1
      split at h1 <;> first | rfl | cases h1
    · cases h
theorem csts_rds {K : PySem.W.Frag} {m : Nat → Addr} {N : Nat} {H : Hp} : ∀ {es : List Expr} {ds : List D}, cstsOf es = some ds → RDs K m N H ds (ds.map cstV)
  | [], _, h => by
    cases h
    exact .nil
  | e :: es, _, h => by
    unfold cstsOf at h
    split at h
    · rename_i d ds h1 h2
      cases h
      exact .cons (cst_rd h1) (csts_rds h2)
    · cases h
def dTr : List (Str × List D) → List (TE × TE)
  | [] => []
  | (s, ds) :: r => (tC (.str s), tLst (tVs (ds.map cstV))) :: dTr r
theorem dsp_pps : ∀ {ks : List (Option Expr)} {vs : List Expr} {kvs : List (Str × List D)}, dspOf ks vs = some kvs → PPs X pos ks vs (dTr kvs) ∧ ks.all (·.isSome) = true ∧ ks.length = vs.length ∧ kvs.length = ks.length ∧ ∀ kv ∈ kvs, ∀ (K : PySem.W.Frag) m N H, RDs K m N H kv.2 (kv.2.map cstV)
  | ks, vs, kvs, h => by
    unfold dspOf at h
    split at h
    · cases h
      exact ⟨pps_nil, rfl, rfl, rfl, fun _ w => by cases w⟩
    · rename_i s u p ks es q vs
      split at h
      · rename_i ds r h1 h2
        cases h
        obtain ⟨a, b, c, d, e⟩ := dsp_pps h2
        refine ⟨pps_cons pe_str (pe_lst (csts_pa h1)) a, ?_, congrArg Nat.succ c, congrArg Nat.succ d, fun kv w K m N H => ?_⟩
        · rw [List.all_cons, b]; rfl
        · rcases List.mem_cons.mp w with w | w
          · rw [w]; exact csts_rds h1
          · exact e kv w K m N H
      · cases h
    · cases h
def DFrm (H H2 : Hp) : Prop := ∀ a, H a ≠ none → H2 a = H a
theorem RH.frame {T : Fx} {m : Nat → Addr} {h : Hh} {H H' : Hp} (r : RH T m h H) (fr : DFrm H H') : Ge m h H m h H' ∧ RH T m h H' := by
  have tk : TK H H' := ⟨fun a xs e => (fr a (by rw [e]; exact fun z => by cases z)).trans e, fun a o xs e => (fr a (by rw [e]; exact fun z => by cases z)).trans e, fun a o xs e => (fr a (by rw [e]; exact fun z => by cases z)).trans e, fun a xs e => (fr a (by rw [e]; exact fun z => by cases z)).trans e, fun a lo hi e => (fr a (by rw [e]; exact fun z => by cases z)).trans e⟩
  have g : Ge m h H m h H' := ⟨fun _ _ => rfl, Nat.le_refl _, tk⟩
  refine ⟨g, ⟨fun n o hn => (r.obj n o hn).mono g fun f => ?_, r.inj⟩⟩
  obtain ⟨w, hw, _⟩ := (r.obj n o hn).there f
  exact fr _ (by rw [hw]; exact fun z => by cases z)
theorem DFrm.upd {H : Hp} {p : Addr} {u : HO} (h : H p = none) : DFrm H (L2.upd H p u) := fun a ha => upd_ne fun z => ha (by rw [z]; exact h)
theorem DFrm.trans {H H1 H2 : Hp} (a : DFrm H H1) (b : DFrm H1 H2) : DFrm H H2 := fun x hx => (b x (by rw [a x hx]; exact hx)).trans (a x hx)
inductive DLay (H H2 : Hp) : List (Str × List D) → List (Key × V) → Prop
  | nil : DLay H H2 [] []
  | cons {s : Str} {ds : List D} {a : Addr} {r : List (Str × List D)} {l : List (Key × V)} : H a = none → H2 a = some (.lst (ds.map cstV)) → DLay H H2 r l → DLay H H2 ((s, ds) :: r) ((.inr s, .ref a) :: l)
theorem DLay.base {H H1 H2 : Hp} (f : DFrm H H1) {r : List (Str × List D)} {l : List (Key × V)} (h : DLay H1 H2 r l) : DLay H H2 r l := by
  induction h with
  | nil => exact .nil
  | @cons s ds a r l h1 h2 _ ih =>
    refine .cons ?_ h2 ih
    refine Classical.byContradiction fun z => z ?_
    rw [← f a z]; exact h1
theorem DLay.len {H H2 : Hp} {r : List (Str × List D)} {l : List (Key × V)} (h : DLay H H2 r l) : l.length = r.length ∧ l.map (·.1) = (r.map (·.1)).map Sum.inr := by
  induction h with
  | nil => exact ⟨rfl, rfl⟩
  | cons _ _ _ ih => exact ⟨congrArg Nat.succ ih.1, congrArg (_ :: ·) ih.2⟩
theorem DLay.look {H H2 : Hp} {r : List (Str × List D)} {l : List (Key × V)} {s : Str} {cs : List D} (h : DLay H H2 r l) (e : r.lookup s = some cs) : ∃ a, valV l (Sum.inr s) = some (.ref a) ∧ H a = none ∧ H2 a = some (.lst (cs.map cstV)) := by
  induction h with
  | nil => cases e
  | @cons s' ds a r l h1 h2 _ ih =>
    rw [List.lookup_cons] at e
    by_cases z : s = s'
    · subst z
      rw [beq_self_eq_true] at e
      cases e
      exact ⟨a, valV_pos rfl, h1, h2⟩
    · have : (s == s') = false := by simpa using z
      rw [this] at e
      obtain ⟨b, i1, i2, i3⟩ := ih e
      exact ⟨b, (valV_neg fun w => z (Sum.inr.inj w).symm).trans i1, i2, i3⟩
theorem dsp_look_mem {s : Str} {cs : List D} : ∀ {r : List (Str × List D)}, r.lookup s = some cs → ∃ kv ∈ r, kv.2 = cs
  | [], e => by cases e
  | (s', ds) :: r, e => by
    rw [List.lookup_cons] at e
    cases z : s == s' with
    | true => rw [z] at e; cases e; exact ⟨_, List.mem_cons_self .., rfl⟩
    | false =>
      rw [z] at e
      obtain ⟨kv, h1, h2⟩ := dsp_look_mem e
      exact ⟨kv, List.mem_cons_of_mem _ h1, h2⟩
theorem dmerge_val (k : Key) : ∀ {more acc : List (Key × V)}, (more.map (·.1)).Nodup → valV (mergeK acc more) k = (match valV more k with
    | some v => some v
    | none => valV acc k)
  | [], _, _ => rfl
  | (k1, v1) :: r, acc, h => by
    rw [List.map_cons, List.nodup_cons] at h
    show valV (mergeK (putK acc k1 v1) r) k = _
    rw [dmerge_val k h.2]
    by_cases z : k1 = k
    · subst z
      rw [valV_pos (p := (k1, v1)) rfl]
      have hn : valV r k1 = none := by
        cases q : valV r k1 with
        | none => rfl
        | some v =>
          exfalso
          have := valV_any k1 r
          rw [q] at this
          obtain ⟨kv, h1, h2⟩ := List.any_eq_true.mp (show (r.any fun kv => decide (kv.1 = k1)) = true from this)
          exact h.1 (List.mem_map.mpr ⟨kv, h1, of_decide_eq_true h2⟩)
      rw [hn]
      show valV (putK acc k1 v1) k1 = _
      rw [valV_put, if_pos rfl]
    · rw [valV_neg (p := (k1, v1)) z]
      cases valV r k with
      | some v => rfl
      | none =>
        show valV (putK acc k1 v1) k = _
        rw [valV_put, if_neg fun w => z w.symm]
theorem dnodup_inr : ∀ {l : List Str}, l.Nodup → (l.map (Sum.inr : Str → Key)).Nodup
  | [], _ => List.nodup_nil
  | x :: l, h => by
    rw [List.nodup_cons] at h
    rw [List.map_cons, List.nodup_cons]
    refine ⟨fun z => ?_, dnodup_inr h.2⟩
    obtain ⟨y, h1, h2⟩ := List.mem_map.mp z
    rw [← Sum.inr.inj h2] at h
    exact h.1 h1
theorem dsp_pairs : ∀ (kvs : List (Str × List D)) (σ : L2.St) (H : Hp) (Q : List (V × V) → Hp → Prop), (∀ kv ∈ kvs, kv.2.length ≤ szl) → (∀ (l : List (Key × V)) (H2 : Hp), DFrm H H2 → DLay H H2 kvs l → Q (l.map fun kv => (kV kv.1, kv.2)) H2) → tPairs (dTr kvs) σ H Q
  | [], σ, H, Q, _, q => q [] H (fun _ _ => rfl) .nil
  | (s, ds) :: r, σ, H, Q, hz, q => by
    show (ds.map cstV).length ≤ sizeLine ∧ ∀ p, H p = none → tPairs (dTr r) σ (upd H p (.lst (ds.map cstV))) fun ps H3 => Q ((.str s, .ref p) :: ps) H3
    refine ⟨?_, fun p hp => ?_⟩
    · rw [List.length_map, sizeLine_eq]
      exact hz _ (List.mem_cons_self ..)
    · refine dsp_pairs r σ _ _ (fun kv h => hz kv (List.mem_cons_of_mem _ h)) fun l H2 f ly => ?_
      have f0 : DFrm H (upd H p (.lst (ds.map cstV))) := DFrm.upd hp
      refine q ((.inr s, .ref p) :: l) H2 (f0.trans f) (.cons hp ?_ (ly.base f0))
      rw [f p (by rw [upd_same]; exact fun z => by cases z)]
      exact upd_same
theorem s_dsp {ks : List (Option Expr)} {vals : List Expr} {kvs : List (Str × List D)} {i : Nat} {k : Int} {x : Str} {dp p1 p3 : Pos} {e2 : Expr} (hu : X.A.units + 65 < cLine) (hd : dspOf ks vals = some kvs) (ok : dspOk kvs = true) (he2 : PE X e2 (tC (.int k))) (hpl : PlainIx e2)
    (hN : X.N[i]? = some x) (hv : Vis X.env.scope x) (hdb : (x == ("__debug__" : Str)) = false) (hcd : (x == ("__classdict__" : Str)) = false) :
    PE X (.Subscript (.Dict ks vals dp) (.Subscript (.Name x p1) e2 p3) pos) (PE_ (FX X cv fn xs) W (dDsp kvs i k)) := by
  obtain ⟨h1, h2, h3, h4, h5⟩ := dsp_pps (X := X) (pos := dp) hd
  unfold dspOk at ok
  rw [Bool.and_eq_true, Bool.and_eq_true, Bool.and_eq_true] at ok
  obtain ⟨⟨⟨o1, o2⟩, o3⟩, o4⟩ := ok
  have o1 := of_decide_eq_true o1
  have o3 := of_decide_eq_true o3
  rw [List.all_eq_true] at o4
  have hne : ks ≠ [] := fun z => by
    rw [z] at h4
    cases kvs with
    | nil => cases o2
    | cons => cases h4
  refine peImp (pe_dget (by omega) (pe_disp h1 h2 h3 hne (by omega)) (pe_ix ix_tup (pe_var hN hv hdb hcd) he2 hpl) (fun _ _ => rfl)) fun σ H Q q => ?_
  obtain ⟨m, e, h, rh, re, p⟩ := q
  unfold dDsp at p
  split at p
  · rename_i ds ed
    split at p
    · rename_i s es
      split at p
      · rename_i cs ec
        obtain ⟨v, g1, g2⟩ := re.at_ i _ ed
        cases g2 with
        | tup sq r =>
          rename_i a vs
          obtain ⟨w, e1, rw'⟩ := atI_rd r es
          cases rw'
          show ∀ pp, H pp = none → tPairs (dTr kvs) σ (upd H pp (.dK [])) fun ps H2 => H2 pp = some (.dK []) ∧ _
          intro pp hpp
          refine dsp_pairs kvs σ _ _ (fun kv hk => of_decide_eq_true (o4 kv hk)) fun l H2 fr ly => ⟨?_, l, rfl, ?_, ?_⟩
          · rw [fr pp (by rw [upd_same]; exact fun z => by cases z)]
            exact upd_same
          · rw [ly.len.1]; exact o3
          · obtain ⟨b, b1, b2, b3⟩ := ly.look ec
            obtain ⟨kv, hk, ek⟩ := dsp_look_mem ec
            have f0 : DFrm H (upd H pp (.dK [])) := DFrm.upd hpp
            have hbp : b ≠ pp := fun z => by rw [z, upd_same] at b2; cases b2
            have hb0 : H b = none := by rw [upd_ne hbp] at b2; exact b2
            have rr : RDs X.K m h.length H cs (cs.map cstV) := by rw [← ek]; exact h5 kv hk X.K m _ H
            obtain ⟨m', g, rh', rd⟩ := rh.newL hb0 rr
            have f1 : DFrm (upd H b (.lst (cs.map cstV))) (upd H2 pp (.dK (mergeK [] l))) := fun y hy => by
              by_cases z : y = b
              · rw [z, upd_ne hbp, upd_same, b3]
              · rw [upd_ne z] at hy ⊢
                have hyp : y ≠ pp := fun w => hy (by rw [w]; exact hpp)
                rw [upd_ne hyp, fr y (by rw [upd_ne hyp]; exact hy), upd_ne hyp]
            obtain ⟨g', rh''⟩ := rh'.frame f1
            have sq' := (g.trans g').tk.seq sq
            refine ⟨_, g1, ?_⟩
            refine ⟨a, vs, k, .str s, rfl, rfl, sq', e1, pp, .ref b, rfl, .inl ⟨_, .inr s, .inl upd_same, rfl, ?_⟩, p m' _ _ (g.trans g') rh'' (g'.rd rd)⟩
            rw [dmerge_val, b1]
            rw [ly.len.2]
            exact dnodup_inr o1
      · exact p.elim
    · exact p.elim
  · exact p.elim
end
end Mn
namespace Mn
open PySem L2
def dPr (c : Nat) (f : FD) (o : ED) : ED := fun e h => (o e h).bind fun x h1 => match insAt h1 x with
  | some (c', _) => if c' = c then noX (f [x] h1) else .stuck
  | none => .stuck
def mN (n : Nat) : Nat := if n = 0 then 1 else n
theorem mN_of {n : Nat} (h : 1 ≤ n) : mN n = n := if_neg (by omega)
def MethP (K : PySem.W.Frag) (C : Addr) (m : Str) (n : Nat) (g : Addr) : Prop := (n ≠ 0 ∧ Meth K C m g) ∨ (n = 0 ∧ Cls K C ∧ ∃ p, PropOf K C m p g)
theorem MethP.meth {K : PySem.W.Frag} {C : Addr} {m : Str} {n : Nat} {g : Addr} (h : MethP K C m n g) (hn : 1 ≤ n) : Meth K C m g := by
  rcases h with ⟨_, h⟩ | ⟨z, _⟩
  · exact h
  · omega
theorem MethP.prop {K : PySem.W.Frag} {C : Addr} {m : Str} {n : Nat} {g : Addr} (h : MethP K C m n g) (hn : n = 0) : Cls K C ∧ ∃ p, PropOf K C m p g := by
  rcases h with ⟨z, _⟩ | ⟨_, h⟩
  · exact absurd hn z
  · exact h
section
variable {X : Cx} {cv : Nat → Value} {fn : Nat → Str} {W : WX} {pos : Pos}
theorem s_prop {oe : Expr} {mm : Str} {c k : Nat} {C g p : Addr} {fd : FuncData} {ps : List Str} {gT : FD} {fo : ED} (ho : PE X oe (PE_ (FX X cv fn none) W fo)) (hC : cv c = .ref C) (cl : Cls X.K C) (hp : PropOf X.K C mm p g)
    (F : FnOk X.prog X.w X.K X.mg X.base (L2N.CX X.prog X.w) k g fd ps (spT (FX X cv fn none) 1 gT)) (hr : Room (k + 1) X.A) (hb : Binds X.K fd ps [])
    (hab : attributeBase oe mm X.env (eval oe X.env) = eval oe X.env) : PE X (.Attribute oe mm pos) (PE_ (FX X cv fn none) W (dPr c gT fo)) := by
  refine peImp (pe_prop (E := fun _ _ _ => False) (dvs := []) ho cl hp F hr hb .nil (fun _ _ _ _ _ _ _ z => ?_) hab) fun σ H Q q => ?_
  · obtain ⟨_, _, _, _, _, _, _, _, _, _, _, _, z⟩ := z
    exact z.elim
  · obtain ⟨m, e, h, rh, re, p⟩ := q
    refine ⟨m, e, h, rh, re, p.bind fun x h1 m1 H1 xv g1 rh1 rx p1 => ?_⟩
    split at p1
    · rename_i c' fs e0
      obtain ⟨n, rfl, hn⟩ := insAt_of e0
      split at p1
      · rename_i hc
        subst hc
        obtain ⟨C', dx, vs, hC', hw, pf, cl', z⟩ := rh1.obj n _ hn
        have eC : C' = C := by have z := hC.symm.trans hC'; cases z; rfl
        subst eC
        have rx0 := rx
        cases rx
        refine ⟨_, dx, vs, rfl, hw, rfl, m1, h1, [.ref n], rh1, .cons rx0 .nil, ?_⟩
        cases q2 : gT [.ref n] h1 with
        | ok a h' => rw [q2] at p1; exact p1
        | exc y h' => rw [q2] at p1; exact p1.elim
        | stuck => rw [q2] at p1; exact p1.elim
      · exact p1.elim
    · exact p1.elim
end
end Mn
namespace Mn
open PySem L2 L2H PySem.Spec PyProof.Rows
structure FnHX (P : Program) (w : World) (K : PySem.W.Frag) (mg : Str → Option Value) (base : Heap) (k : Nat) (f : Addr) (fd : FuncData) (ps : List Str) (sp : Addr × Obj → Sp) : Prop where
  len : ∀ p vs H Q E, sp p vs H Q E → vs.length = ps.length
  run : ∀ (A : Around) (outer : List Env) (s : Shared) (H : Hp) (args : Args) (us : List Value) (vs : List V) (Q : VK) (E : XK) (p : Addr × Obj), RoomH k A → Hot1 A p → PinOk outer H s p → Env0 P w K mg base A outer s H → BindsTo s fd args (ps.zip us) → Vals vs us → sp p vs H Q E →
    codeAny (model P w) A (.call (.ref f) args) (CR (L2N.CX P w) outer P w H s Q E) s
theorem endH {P : Program} {w : World} {K : PySem.W.Frag} {mg : Str → Option Value} {base : Heap} {N : List Str} {qual : Str} {scope : Scope} {f : Addr} {cd : Value} {A : Around} {outer : List Env} {s s' : Shared} {H : Hp} {E : XK} {Q : VK} {p : Addr × Obj}
    {σ : L2.St} {H' : Hp} {v : V} {u : Value} (J : Inv (cxH (L2N.CX P w) P w K mg base N qual scope f cd A outer s H E p) [] σ H' s') (r : RelV v u) (q : Q v H') : CE outer P w H s Q u s' := ⟨v, H', J.os, J.bare, J.base, J.hok, r, q⟩
theorem fnHX_of {P : Program} {w : World} {K : PySem.W.Frag} {mg : Str → Option Value} {base : Heap} {k : Nat} {f : Addr} {name qual : Str} {params : Arguments} {body : List Stmt} {scope : Scope} {dV kV doc pm cdv ct oc : Value} {an od : Option Addr} {osl : Array (Option Value)} {N ps : List Str} {sp : Addr × Obj → Sp}
    (lk : K.lookup f = some ⟨oc, od, .func (PySem.W.fnOf name qual params body scope dV kV doc pm an cdv ct), osl⟩) (hcd : PySem.W.codeIn K cdv qual = true) (S : FnScope N ps scope) (len : ∀ p vs H Q E, sp p vs H Q E → vs.length = ps.length)
    (hbody : ∀ (A : Around) (outer : List Env) (s : Shared) (H : Hp) (vs : List V) (Q : VK) (E : XK) (p : Addr × Obj), Hot1 A p → RoomH k (A.deeper (envOfC qual scope s.heap.objs.size f cdv)) → sp p vs H Q E →
      ∃ t, PSs (cxH (L2N.CX P w) P w K mg base N qual scope f cdv A outer s H E p) body t ∧ t { nx := fun _ H' => Q .non H', rt := Q } (L2.start N vs) H) :
    FnHX P w K mg base (k + 1) f (PySem.W.fnOf name qual params body scope dV kV doc pm an cdv ct) ps sp :=
  ⟨len, fun A outer s H args us vs Q E p hr hot hpin e0 hb r hsp => by
    obtain ⟨t, ht, hq⟩ := hbody A outer s H vs Q E p hot (hr.deeper _) hsp
    have kin : K.In s.heap := e0.mod.kin.keeps fun b o e => (e0.bs b o e).1
    have nl : s.heap.NoLimit := e0.mod.nolimit.keeps fun b o e => (e0.bs b o e).1
    have kinds : ∀ y ∈ ps.zip us, scope.names.lookup y.1 = some .local ∨ (scope.names.lookup y.1 = some .cell ∧ ((cellsFrom (s.heap.objs.size + 1) scope.names []).lookup y.1).isSome = true) := fun y hy =>
      (S.par y.1 (List.of_mem_zip (a := y.1) (b := y.2) hy).1).elim .inl fun q => .inr ⟨q, PySem.W.cellsFrom_some _ _ _ (.inl q)⟩
    refine codeAny_call_function hr.depth (kin _ _ lk) rfl S.co S.gen rfl (PySem.W.codeRec_of kin hcd) (hb _ _ _ _ (wpAny_newFunctionEnv_cells S.kind kinds fun env he s1 x => ?_))
    cases he
    refine ⟨nl.keeps x.toInCall.keep, codeAny_func (wpAny_mono (ht.run [] s1 (L2.start N vs) H _ (inv_startH S hpin e0 (len _ _ _ _ _ hsp) r x) hq) (fun fl s' hs => ?_) fun e s' hs => hs)⟩
    cases fl with
    | ret u => obtain ⟨v, σ', H', J, rv, q⟩ := hs; exact endH J rv q
    | next => obtain ⟨σ', H', J, q⟩ := hs; exact endH (v := V.non) (u := Value.none) J rfl q
    | brk => obtain ⟨_, _, _, q⟩ := hs; exact q.elim
    | cont => obtain ⟨_, _, _, q⟩ := hs; exact q.elim⟩
section
variable {X : Cx} {k : Nat} {f : Addr} {fd : FuncData} {ps : List Str} {sp : Addr × Obj → Sp} {p : Addr × Obj}
theorem run_hx {E : XK} {pins : List (Addr × Obj)} {σ : L2.St} {H : Hp} {s : Shared} {Q : VK} {us : List Value} {vs : List V} (F : FnHX X.prog X.w X.K X.mg X.base k f fd ps sp) (hr : RoomH k X.A) (hh : Hot1 X.A p) (hp : p ∈ X.pn) (hb : Binds X.K fd ps []) (hx : PassesAt (L2N.CX X.prog X.w) X σ E)
    (I : Inv X pins σ H s) (r : Vals vs us) (h : sp p vs H Q E) : wpAny (model X.prog X.w) X.A (call (.ref f) us) (EP X pins σ Q) X.xe s := by
  have hl : (us ++ []).length = ps.length := by rw [List.append_nil]; exact r.length.symm.trans (F.len _ _ _ _ _ h)
  have b := hb s us I.kIn hl
  rw [List.append_nil] at b
  obtain ⟨p1, p2, p3, p4, p5⟩ := I.pin p (List.mem_append_left _ hp)
  have pin : PinOk X.stack H s p := ⟨p1, p2, fun hm => (List.mem_cons.mp (I.stkSub p.1 hm)).elim p3 p4, p5⟩
  refine wpAny_call (codeAny_mono (F.run X.A X.stack s H ⟨us, []⟩ us vs Q E p hr hh pin I.env0 b r h) fun res s2 q => ?_)
  match res, q with
  | .error x, q => exact hx pins H s x s2 I q
  | .ok (.ret w), q => exact I.after q
  | .ok .next, q => exact q.elim
  | .ok .brk, q => exact q.elim
  | .ok .cont, q => exact q.elim
end
def spTX (K : PySem.W.Frag) (cv : Nat → Value) (fn : Nat → Str) (g : Xc → Hh → R D) : Addr × Obj → Sp := fun p vs H Q E => vs = [.ref p.1] ∧ ∃ (y : Xc) (dd : Option Addr) (m : Nat → Addr) (h : Hh), L2N.Zn (cv y.cls) dd p.2 ∧ RH ⟨K, cv, fn, none⟩ m h H ∧ RXf K m h.length H y.fs dd ∧
  PO ⟨K, cv, fn, none⟩ (fun c d _ H => E c d H) (rdR ⟨K, cv, fn, none⟩) [] m h H (g y h) Q
section
variable {X : Cx} {cv : Nat → Value} {fn : Nat → Str} {xs : Xs} {W : WX} {pos : Pos} {a : Expr} {k : Nat} {f : Addr} {fd : FuncData} {ps : List Str} {g : FD} {x : Str} {p : Pos} {es : List Expr} {fs : AD} {pp : Addr × Obj}
theorem spT_hx {σ : L2.St} {m : Nat → Addr} {h : Hh} {H : Hp} {ds : List D} {vs : List V} {Q : VK} (n : Nat) (hn : vs.length = n) (rh : RH (FX X cv fn xs) m h H) (r : RDs X.K m h.length H ds vs)
    (p : PO (FX X cv fn xs) W (rdR (FX X cv fn xs)) σ m h H (g ds h) Q) : spT ⟨X.K, cv, fn, none⟩ n g vs H Q (WE W σ) := by
  refine ⟨hn, m, h, ds, rh.ex, r, ?_⟩
  cases q : g ds h with
  | ok a h' => rw [q] at p; exact fun m1 H1 b g1 rh1 r1 => p m1 H1 b g1 rh1.ex r1
  | exc x h' => rw [q] at p; exact fun m1 H1 c dd g1 rh1 r1 => p m1 H1 c dd g1 rh1.ex r1
  | stuck => rw [q] at p; exact p
theorem s_callHX (F : FnHX X.prog X.w X.K X.mg X.base k f fd ps (fun _ => spT ⟨X.K, cv, fn, none⟩ ps.length g)) (hr : RoomH k X.A) (hh : Hot1 X.A pp) (hp : pp ∈ X.pn) (hg : Gl X x) (hm : X.mg x = some (.ref f)) (hk : PySem.W.keepIn X.K (.ref f) = true) (hb : Binds X.K fd ps [])
    (hn : (a :: es).length = ps.length) (hlen : ∀ e h ds h', fs e h = .ok ds h' → ds.length = (a :: es).length) (tk : L2N.Takes X W) (ha : PA X (a :: es) (PA_ (FX X cv fn xs) W fs)) (hdb : (x == ("__debug__" : Str)) = false)
    (he : starEach (a :: es) X.env = (false, eval a X.env) :: starEach es X.env) (hpl : (backTo pos (starEach es X.env)).any (·.1) = false) :
    PE X (.Call (.Name x p) (a :: es) [] pos) (PE_ (FX X cv fn xs) W (dCall g fs [])) := by
  refine ⟨fun pins s σ H Q I hq => ?_⟩
  obtain ⟨m, e, h, rh, re, p0⟩ := hq
  unfold dCall at p0
  refine wpAny_Call_Name_kw (ld_glob I hg hm ?_ hdb)
  refine PySem.W.callWith_K (h₀ := X.base) I.ok.mod.kin hk (thn (ha.run pos pins s σ H (fun vs H1 => spT ⟨X.K, cv, fn, none⟩ ps.length g vs H1 Q (WE W σ)) I ⟨m, e, h, rh, re, ?_⟩) fun us s1 ⟨vs, H1, I1, r, q⟩ => ⟨I1.kIn, run_hx F hr hh hp hb (L2N.passAt tk σ) I1 r q⟩) he hpl
  cases q : fs e h with
  | ok ds h' =>
    rw [q] at p0
    intro m1 H1 vs g1 rh1 r1
    have p2 : PO (FX X cv fn xs) W (rdR (FX X cv fn xs)) σ m h H (g (ds ++ []) h') Q := p0
    rw [List.append_nil] at p2
    exact spT_hx ps.length (by rw [← r1.length, hlen _ _ _ _ q]; exact hn) rh1 r1 (p2.base g1)
  | exc x h' => rw [q] at p0; exact p0
  | stuck => rw [q] at p0; exact p0.elim
theorem s_callXX {i : Nat} {b : Addr} {y : Xc} {dd : Option Addr} {gx : Xc → Hh → R D} (F : FnHX X.prog X.w X.K X.mg X.base k f fd ps (spTX X.K cv fn gx)) (hr : RoomH k X.A) (hh : Hot1 X.A pp) (hp : pp ∈ X.pn) (hxs : xs = some (i, b, y, dd)) (hb' : b = pp.1) (hz : L2N.Zn (cv y.cls) dd pp.2)
    (hg : Gl X x) (hm : X.mg x = some (.ref f)) (hk : PySem.W.keepIn X.K (.ref f) = true) (hb : Binds X.K fd ps []) (tk : L2N.Takes X W) (ha : PA X [a] (fun σ H Q => σ[i]? = some (some (.ref b)) ∧ Q [.ref b] H)) (hdb : (x == ("__debug__" : Str)) = false)
    (he : starEach [a] X.env = (false, eval a X.env) :: starEach [] X.env) : PE X (.Call (.Name x p) [a] [] pos) (PE_ (FX X cv fn xs) W (fun _ h => gx y h)) := by
  subst hb'
  refine ⟨fun pins s σ H Q I hq => ?_⟩
  obtain ⟨m, e, h, rh, re, p0⟩ := hq
  change PO (FX X cv fn xs) W (rdR (FX X cv fn xs)) σ m h H (gx y h) Q at p0
  refine wpAny_Call_Name_kw (ld_glob I hg hm ?_ hdb)
  obtain ⟨e1, e2⟩ := re.exc i pp.1 y dd hxs
  refine PySem.W.callWith_K (h₀ := X.base) I.ok.mod.kin hk (thn (ha.run pos pins s σ H (fun vs H1 => spTX X.K cv fn gx pp vs H1 Q (WE W σ)) I ⟨e1, rfl, y, dd, m, h, hz, rh.ex, e2, ?_⟩) fun us s1 ⟨vs, H1, I1, r, q⟩ => ⟨I1.kIn, run_hx F hr hh hp hb (L2N.passAt tk σ) I1 r q⟩) he rfl
  cases q : gx y h with
  | ok d h' => rw [q] at p0; exact fun m1 H1 b g1 rh1 r1 => p0 m1 H1 b g1 rh1.ex r1
  | exc x h' => rw [q] at p0; exact fun m1 H1 c dd g1 rh1 r1 => p0 m1 H1 c dd g1 rh1.ex r1
  | stuck => rw [q] at p0; exact p0.elim
end
section
variable {X : Cx} {cv : Nat → Value} {fn : Nat → Str} {xs : Xs} {W : WX} {pos : Pos} {a tg : Expr} {fa : ED}
theorem i_range1H {p : Pos} (hg : Gl X "range") (hm : X.mg "range" = none) (ha : PE X a (PE_ (FX X cv fn xs) W fa)) (hs : starEach [a] X.env = [(false, eval a X.env)]) : PIH X tg (.Call (.Name "range" p) [a] [] pos) (PI_ (FX X cv fn xs) W (iRange1 fa)) :=
  ⟨fun pins s σ H R I q => (pi_range1H (tg := tg) (pos := pos) (p := p) hg hm (pa1 ha hs) hs).run pins s σ H R I (rng1_imp q)⟩
theorem s_forH {it : Expr} {body : List Stmt} {f : SD} {fi : ID} {k : Tg} {is : List Nat} (hp : PassesOwn (model X.prog X.w) X.A X.env X.xe) (hc : HotC X) (hi : PIH X tg it (PI_ (FX X cv fn xs) W fi)) (hg : PG X tg (PG_ (FX X cv fn xs) is k)) (hb : PSs X body (PS_ (FX X cv fn xs) W f))
    (hs : ∀ x, foldedSetIterable it X.env x = pure x) : PS X (.For tg it body [] pos) (PS_ (FX X cv fn xs) W (sFor fi k f)) :=
  psImp (ps_forH hp hc hi hg hb hs) fun D σ H q => for_imp q
end
section
variable {X : Cx} {a D : Addr} {oe : Obj}
theorem isi_at {d : Option Addr} (C : ExcC X.K D) (hp : (a, oe) ∈ X.pn) (hz : Zc (.ref D) d oe) (hf : ∃ vs, oe.data = .fields vs) :
    CallR X (.builtin "isinstance") (fun xs H Q => ∃ (c : V) (cv : Value) (b : Bool), xs = [.ref a, c] ∧ (∀ dd, d = some dd → ∃ fs, H dd = some (.xd fs)) ∧ (∀ u, RelV c u → u = cv) ∧ PySem.W.kitOne X.K (.ref D) cv = some b ∧ Q (.bl b) H) := by
  intro pins s σ H xs us Q I r ⟨c, cv, b, e0, hd, hcv, e, q⟩
  subst e0
  match us, r with
  | [_, _], .cons rx (.cons rt .nil) =>
    cases rx; cases hcv _ rt
    obtain ⟨hget, _⟩ := I.pin (a, oe) (List.mem_append_left _ hp)
    obtain ⟨vs, hv⟩ := hf
    have J : ∃ dd, PySem.W.InstAt s.heap a oe D dd := by
      cases d with
      | none => exact ⟨none, hget, hz.1, by unfold PySem.W.notCls; rw [hv] <;> rfl, by rw [hz.2]; trivial⟩
      | some dd =>
        obtain ⟨fs, hx⟩ := hd dd rfl
        obtain ⟨mA, hns, hr⟩ := (I.hok dd _ hx : ObjOk X.prog X.w H s.heap dd (.xd fs))
        obtain ⟨od, ho, _⟩ := lookIn_ns hns
        exact ⟨some od, hget, hz.1, by unfold PySem.W.notCls; rw [hv] <;> rfl, by rw [hz.2]; exact ho⟩
    exact PySem.W.kia_one (kit_told C) I.kIn J e (fun z => nomatch z) fun tk => ⟨.bl b, H, I.kept (t' := tk) fun _ _ z => z, rfl, q⟩
theorem pe_xfAt {C : Addr} {cls : Value} {d : Option Addr} {e : Expr} {te : TE} {pos : Pos} {n : Str} (T : XfC X.K C) (hno : PySem.W.findIn X.K (.ref C) n = some none) (hp : (a, oe) ∈ X.pn) (hz : Zc cls d oe) (hf : ∃ vs, oe.data = .fields vs) (he : PE X e te) (hb : attributeBase e n X.env (eval e X.env) = eval e X.env) :
    PE X (.Attribute e n pos) (tXf a cls d C n te) :=
  ⟨fun pins s σ H Q I h => attr_of hb (thn (he.run pins s σ H _ I h) fun u s1 ⟨x, H1, I1, rx, ex, ec, dd, fs, v, ed, ea, l, q⟩ => by
    subst ex ec ed
    cases (show u = Value.ref a from rx)
    obtain ⟨vs, hd⟩ := hf
    obtain ⟨mA, hns, hr⟩ := (I1.hok dd _ ea : ObjOk X.prog X.w H1 s1.heap dd (.xd fs))
    obtain ⟨od, ho, hl⟩ := lookIn_ns hns
    obtain ⟨u, hu, ru⟩ := RelO.some_of (v := v) (o := mA n) (by rw [← l]; exact hr n)
    exact HandSPX.exc_get I1.kIn ⟨(I1.pin (a, oe) (List.mem_append_left _ hp)).1, hz.1, by unfold PySem.W.notCls; rw [hd] <;> rfl, by rw [hz.2]; exact ho⟩ T.ga T.gg T.exC (PySem.W.findObj_own T.hdC hno rfl (by rw [hl, hu])) (handed_of ru) ⟨v, H1, I1.tok _, ru, q⟩)⟩
end
end Mn
namespace Mn
open PySem L2
inductive GV where
  | blt | bf (id : String) | val (d : D) | fn (id n : Nat) (dv : List D) | cls (id : Nat) | bcls (id : Nat)
  /-- a class of instances: its number, its __init__, all parameters, the last parameters' defaults, the numbers of written arguments, calls with keywords -/
  | ucls (c id n : Nat) (dv : List D) (ps : List Nat) (ks : List (Nat × List Str × List KP × List D))
  /-- an exception with attributes -/
  | xcls (c : Nat) (fs : List Nat)
inductive Md where
  | body | blk | suite (x : Xc) (n : Option (Str × Nat)) | hot
structure G where
  N : List Str
  sc : Scope
  gl : List (Str × GV)
  fl : List (Str × Nat)
  ms : List (Str × List (Nat × Nat × Nat × List D))
  T : Nat → FD
  /-- the defs, called in an except suite; called there with the exception alone -/
  TH : Nat → FD
  TX : Nat → Xc → Hh → R D
  sub : Nat → Nat → Option Bool
  isi : Nat → Nat → Option Bool
  xa : Nat → List Nat
  fuel : Nat
  md : Md
def dAndT (a b : ED) : ED := fun e h => (a e h).bind fun x h1 => match truth x h1 with
  | some k => if k then b e h1 else .ok x h1
  | none => .stuck
def dOrT (a b : ED) : ED := fun e h => (a e h).bind fun x h1 => match truth x h1 with
  | some k => if k then .ok x h1 else b e h1
  | none => .stuck
def dNotT (a : ED) : ED := fun e h => (a e h).bind fun x h1 => match truth x h1 with
  | some k => .ok (.bl (!k)) h1
  | none => .stuck
def iop : Operator → D → D → Hh → R D
  | .Add, .int i, .int j, h => .ok (.int (i + j)) h
  | .Sub, .int i, .int j, h => .ok (.int (i - j)) h
  | .Mult, .int i, .int j, h => if cMul i j then .ok (.int (i * j)) h else .stuck
  | .Add, .str a, .str b, h => if a.length + b.length ≤ szl then .ok (.str (a ++ b)) h else .stuck
  | _, _, _, _ => .stuck
structure DD where
  E : G → Expr → ED
  T : G → Expr → TD
  S : G → Stmt → SD
def isStar : Expr → Bool
  | .Starred .. => true
  | _ => false
def isSlice : Expr → Bool
  | .Slice .. => true
  | _ => false
def isSet : Expr → Bool
  | .Set .. => true
  | _ => false
def isLc : Expr → Bool
  | .ListComp .. | .SetComp .. | .DictComp .. => true
  | _ => false
def okNm (x : Str) : Bool := !(x == ("__debug__" : Str)) && !(x == ("__classdict__" : Str)) && !(x == ("__name__" : Str))
def G.calm (g : G) : Bool := match g.md with
  | .suite _ _ => false
  | .hot => false
  | _ => true
def G.hotOk (g : G) : Bool := match g.md with
  | .suite _ (some _) => true
  | .hot => true
  | _ => false
def G.ix (g : G) (x : Str) : Option Nat := g.N.findIdx? (· == x)
def G.own (g : G) (x : Str) : Bool := match g.sc.names.lookup x with
  | some .local => true
  | some .cell => true
  | some .free => true
  | _ => false
def G.glob (g : G) (x : Str) : Option GV := match g.sc.names.lookup x with
  | some .globalImplicit => if okNm x = true then g.gl.lookup x else none
  | _ => none
def G.sto (g : G) (x : Str) : Option Nat := if g.sc.names.lookup x == some .local || g.sc.names.lookup x == some .cell then match g.ix x with
    | some i => match g.md with
      | .suite _ (some (_, j)) => if i = j then none else some i
      | _ => some i
    | none => none
  else none
def denA (d : DD) (g : G) : List Expr → AD
  | [] => aN
  | e :: es => aC (d.E g e) (denA d g es)
def tyOf (x : Str) : Option Ty := if x == ("int" : Str) then some .int else if x == ("bool" : Str) then some .bool else if x == ("str" : Str) then some .str else if x == ("tuple" : Str) then some .tuple else if x == ("list" : Str) then some .list else none
def G.exc (g : G) : Expr → Option Xc
  | .Name x _ => match g.md with
    | .suite y (some (n, _)) => if x == n then some y else none
    | _ => none
  | _ => none
def G.cid (g : G) : Expr → Option Nat
  | .Name x _ => match g.glob x with
    | some (.cls c) => some c
    | some (.bcls c) => some c
    | some (.xcls c _) => some c
    | _ => none
  | _ => none
def G.fid (g : G) (x : Str) : Option Nat := match g.fl.lookup x with
  | some i => if (fnm i == x) = true ∧ i < fnames.length then some i else none
  | none => none
def dXf (xa : Nat → List Nat) (y : Xc) (i : Nat) : ED := if (xa y.cls).elem i = true then match y.fs.lookup i with
    | some d => dC d
    | none => dK
  else dK
def isX (t : Nat → Nat → Option Bool) (y : Xc) (c : Nat) : ED := match t y.cls c with
  | some k => dC (.bl k)
  | none => dK
def denIs (d : DD) (g : G) (a b : Expr) : ED := match g.exc a with
  | some y => match g.cid b with
    | some c => isX g.isi y c
    | none => dK
  | none => match b with
    | .Name t _ => match g.glob t, tyOf t with
      | some .blt, some ty => dIs ty (d.E g a)
      | _, _ => dK
    | _ => dK
def denL (d : DD) (g : G) (a : Expr) : ED := match a with
  | .Call (.Name y _) [b] [] _ => match g.glob y with
    | some .blt => if isStar b = true then dCall fList (denA d g [a]) []
      else if y == ("reversed" : Str) then (if g.calm = true then dCall fLRev (denA d g [b]) [] else dK)
      else if y == ("range" : Str) then (if g.calm = true then dCall fLRng (denA d g [b]) [] else dK)
      else dCall fList (denA d g [a]) []
    | _ => dCall fList (denA d g [a]) []
  | .Call (.Name y _) [b, c] [] _ => match g.glob y with
    | some .blt => if isStar b = true ∨ isStar c = true then dCall fList (denA d g [a]) []
      else if y == ("range" : Str) then (if g.calm = true then dCall fLRng (denA d g [b, c]) [] else dK)
      else dCall fList (denA d g [a]) []
    | _ => dCall fList (denA d g [a]) []
  | _ => dCall fList (denA d g [a]) []
def denLen (d : DD) (g : G) (a : Expr) : ED := match a with
  | .Call (.Name y _) [b] [] _ => match g.glob y with
    | some .blt => if isStar b = true then dCall fLen (denA d g [a]) []
      else if y == ("set" : Str) then (if g.calm = true then dCall fLenS (denA d g [b]) [] else dK)
      else dCall fLen (denA d g [a]) []
    | _ => dCall fLen (denA d g [a]) []
  | _ => dCall fLen (denA d g [a]) []
def denB (d : DD) (g : G) (x : Str) (args : List Expr) : ED := match args with
  | [a] => if x == ("len" : Str) then denLen d g a
    else if x == ("abs" : Str) then dCall fAbs (denA d g args) []
    else if x == ("int" : Str) then dCall fInt (denA d g args) []
    else if x == ("str" : Str) then (if g.calm = true then dCall fStrL (denA d g args) [] else dCall fStr (denA d g args) [])
    else if x == ("list" : Str) then denL d g a
    else if x == ("tuple" : Str) then dCall fTuple (denA d g args) []
    else if x == ("range" : Str) then dCall fRng1 (denA d g args) []
    else if g.calm = true then
      if x == ("sum" : Str) then dCall fSum (denA d g args) []
      else if x == ("all" : Str) then dCall fAll (denA d g args) []
      else if x == ("any" : Str) then dCall fAny (denA d g args) []
      else if x == ("sorted" : Str) then dCall fSorted (denA d g args) []
      else dK
    else dK
  | [a, b] => if x == ("isinstance" : Str) then denIs d g a b
    else if g.calm = true then
      if x == ("max" : Str) then dCall fMax (denA d g args) []
      else if x == ("min" : Str) then dCall fMin (denA d g args) []
      else dK
    else dK
  | _ => dK
def denHC (d : DD) (g : G) (id n : Nat) (args : List Expr) : ED := if g.hotOk = true then match args with
  | [] => dK
  | a :: r => match g.exc a with
    | some y => if n = 1 ∧ r = [] then (fun _ h => g.TX id y h) else dK
    | none => if (a :: r).length = n then dCall (g.TH id) (denA d g (a :: r)) [] else dK
  else dK
def denC (d : DD) (g : G) (x : Str) (args : List Expr) : ED := if args.any isStar = true then dK else match g.glob x with
  | some (.fn id n dv) => if g.calm = true ∧ args.length ≤ n ∧ n - args.length ≤ dv.length then dCall (g.T id) (denA d g args) (dv.drop (dv.length - (n - args.length))) else denHC d g id n args
  | some (.bf f) => if f = "math.gcd" ∧ args ≠ [] then dCall fGcd (denA d g args) [] else dK
  | some .blt => denB d g x args
  | some (.ucls c id n dv ps _) => if g.calm = true ∧ ps.elem args.length = true then dMk c (g.T id) (denA d g args) (dv.drop (dv.length - (n - (args.length + 1)))) else dK
  | _ => dK
def okBase : Expr → Bool
  | .Name .. | .Attribute .. | .Subscript .. | .Constant .. | .List .. => true
  | .Call (.Attribute ..) _ _ _ => true
  | .Call (.Name ..) (_ :: _) _ _ => true
  | _ => false
def mtTab (m : Str) (n : Nat) : Option ((D → Hh → Bool) × (D → List D → Hh → R D)) :=
  if m == ("append" : Str) ∧ n ≠ 0 then some (chkL, mAppend)
  else if m == ("pop" : Str) then (if n = 0 then some (chkL, mPop) else some (chkL, mPopAt))
  else if m == ("reverse" : Str) ∧ n = 0 then some (chkL, mRev)
  else if m == ("insert" : Str) ∧ n ≠ 0 then some (chkL, mInsert)
  else if m == ("extend" : Str) ∧ n ≠ 0 then some (chkL, mExtend)
  else if m == ("index" : Str) ∧ n ≠ 0 then some (chkL, mIndex)
  else if m == ("remove" : Str) ∧ n ≠ 0 then some (chkL, mRemove)
  else if m == ("split" : Str) ∧ n ≠ 0 then some (chkS, mSplit)
  else if m == ("join" : Str) ∧ n ≠ 0 then some (chkS, mJoin)
  else if m == ("rfind" : Str) ∧ n ≠ 0 then some (chkS, mRfind)
  else if m == ("partition" : Str) ∧ n ≠ 0 then some (chkS, mPart)
  else none
def mtF (f : FD) (dv : List D) : FD := fun ds h => f (ds ++ dv) h
def G.mt (g : G) (nw : Nat) : List (Nat × Nat × Nat × List D) → List (Nat × FD)
  | [] => []
  | (c, id, n, dv) :: r => if nw + 1 ≤ n ∧ n - (nw + 1) ≤ dv.length then (c, mtF (g.T id) (dv.drop (dv.length - (n - (nw + 1))))) :: g.mt nw r else g.mt nw r
def denF (d : DD) (g : G) (o : Expr) (f : Str) : ED := match g.fid f with
  | some i => match g.exc o with
    | some y => dXf g.xa y i
    | none => if okBase o = true then dFld i (d.E g o) else dK
  | none => match g.ms.lookup f with
    | some [(c, id, n, dv)] => if g.calm = true ∧ n = 0 ∧ okBase o = true then dPr c (g.T id) (d.E g o) else dK
    | _ => dK
def kwn : List Keyword → Option (List Str)
  | [] => some []
  | k :: r => match k.arg, kwn r with
    | some x, some l => some (x :: l)
    | _, _ => none
def denK (d : DD) (g : G) (x : Str) (args : List Expr) (kws : List Keyword) : ED := match g.glob x with
  | some (.ucls c id _ _ _ ks) => match kwn kws with
    | some l => match ks.find? (fun t => t.1 == args.length && t.2.1 == l) with
      | some t => if g.calm = true ∧ args.any isStar = false then dMkK c (g.T id) t.2.2.1 t.2.2.2 (denA d g args) (denA d g (kws.map (·.value))) else dK
      | none => dK
    | none => dK
  | _ => dK
def denM (d : DD) (g : G) (o : Expr) (m : Str) (apos pos : Pos) (args : List Expr) : ED :=
  if args.any isStar = false ∧ args.length < 20 ∧ (apos.endLine == pos.line) = true ∧ okBase o = true then match mtTab m args.length with
    | some p => dM p.1 p.2 (d.E g o) (denA d g args)
    | none => match g.ms.lookup m with
      | some l => if g.calm = true then dMe (g.mt args.length l) (d.E g o) (denA d g args) else dK
      | none => dK
  else dK
def denO (d : DD) (g : G) : Option Expr → OD
  | none => oN
  | some e => oS (d.E g e)
def G.stos (g : G) : List Expr → Option (List Nat)
  | [] => some []
  | .Name x _ :: es => match g.sto x, g.stos es with
    | some i, some is => some (i :: is)
    | _, _ => none
  | _ => none
def G.tgs (g : G) : List Expr → Option (List Nat × List Tg)
  | [] => some ([], [])
  | .Name x _ :: es => match g.sto x, g.tgs es with
    | some i, some p => some ([i] ++ p.1, gN i :: p.2)
    | _, _ => none
  | .Tuple ts _ _ :: es => match g.stos ts, g.tgs es with
    | some is, some p => some (is ++ p.1, gT is :: p.2)
    | _, _ => none
  | _ => none
def allNm : List Expr → Bool
  | [] => true
  | .Name .. :: es => allNm es
  | _ => false
def G.tg (g : G) : Expr → Option (List Nat × Tg)
  | .Name x _ => (g.sto x).map fun i => ([i], gN i)
  | .Tuple es _ _ => if g.calm = true then (if allNm es = true then (g.stos es).map fun is => (is, gT is) else (g.tgs es).map fun p => (p.1, gTm p.2)) else none
  | _ => none
def isTup : Expr → Bool
  | .Tuple .. => true
  | _ => false
def iK : ID := fun _ _ => .stuck
def denI (d : DD) (g : G) (tg : Expr) : Expr → ID
  | .Call (.Name x p) args [] pos => match g.glob x with
    | some .blt => match args with
      | [a] => if isStar a = true then iK
        else if x == ("range" : Str) then iRange1 (d.E g a)
        else if x == ("reversed" : Str) then iRev (d.E g a)
        else if x == ("enumerate" : Str) ∧ isTup tg = true then iEnum (d.E g a)
        else if x == ("list" : Str) then iSeq (d.E g (.Call (.Name x p) args [] pos))
        else iK
      | [a, b] => if isStar a = true ∨ isStar b = true then iK
        else if x == ("range" : Str) then iRange2 (d.E g a) (d.E g b)
        else if x == ("zip" : Str) ∧ isTup tg = true then iZip (d.E g a) (d.E g b)
        else iK
      | _ => iK
    | _ => iSeq (d.E g (.Call (.Name x p) args [] pos))
  | e => if isSet e = true then iK else iSeq (d.E g e)
def ownOf (g : G) (sc : Scope) : List (Str × Nat) := sc.names.filterMap fun y => match y.2 with
  | .local => (g.ix y.1).map fun i => (y.1, i)
  | .cell => (g.ix y.1).map fun i => (y.1, i)
  | _ => none
def denTs (d : DD) (g : G) : List Expr → TD
  | [] => tY
  | [c] => d.T g c
  | _ => tK
noncomputable def denLc (d : DD) (g : G) (el : Expr) (gs : List Comprehension) (sc : Scope) : ED := match gs with
  | [⟨tg, it, ifs, 0⟩] =>
    let own := ownOf g sc
    let g' : G := { g with sc := relS sc g.sc, md := .blk }
    match g'.tg tg with
    | some (is, t) => if g.calm = true ∧ blkC g.N g.sc sc own = true ∧ is.all (fun i => decide (i ∈ own.map (·.2))) = true ∧ isSet it = false then dLc (denI d g tg it) t (denTs d g' ifs) (d.E g' el) (own.map (·.2)) else dK
    | none => dK
  | [⟨tg, it, ifs, 0⟩, ⟨tg1, it1, ifs1, 0⟩] =>
    let own := ownOf g sc
    let g' : G := { g with sc := relS sc g.sc, md := .blk }
    match g'.tg tg, g'.tg tg1 with
    | some (is, t), some (is1, t1) => if g.calm = true ∧ blkC g.N g.sc sc own = true ∧ is.all (fun i => decide (i ∈ own.map (·.2))) = true ∧ is1.all (fun i => decide (i ∈ own.map (·.2))) = true ∧ isSet it = false ∧ isSet it1 = false then
        dLc2 (denI d g tg it) t (denTs d g' ifs) (denI d g' tg1 it1) t1 (denTs d g' ifs1) (d.E g' el) (own.map (·.2)) is1 else dK
    | _, _ => dK
  | _ => dK
def denBoE (d : DD) (g : G) (op : BoolOp) : List Expr → ED
  | [] => dK
  | [a] => d.E g a
  | a :: b :: r => match op with
    | .And => dAndT (d.E g a) (denBoE d g op (b :: r))
    | .Or => dOrT (d.E g a) (denBoE d g op (b :: r))
def denBoT (d : DD) (g : G) (op : BoolOp) : List Expr → TD
  | [] => tK
  | [a] => d.T g a
  | a :: b :: r => match op with
    | .And => tAnd (d.T g a) (denBoT d g op (b :: r))
    | .Or => tOr (d.T g a) (denBoT d g op (b :: r))
def denIx (d : DD) (g : G) : Expr → Expr → ED
  | .Dict ks vs _, .Subscript (.Name x _) (.Constant (.int k) _ _) _ => match dspOf ks vs, g.ix x with
    | some kvs, some i => if (dspOk kvs && okNm x && g.own x) = true then dDsp kvs i k else dK
    | _, _ => dK
  | a, b => dIx (d.E g a) (d.E g b)
noncomputable def stepE (d : DD) (g : G) : Expr → ED
  | .Name x _ => if okNm x = true then (if g.own x = true then (match g.exc (.Name x ⟨0, 0, 0, 0⟩) with
      | some _ => dK
      | none => match g.ix x with
        | some i => dV i
        | none => dK) else match g.glob x with
      | some (.val v) => dC v
      | _ => dK) else dK
  | .Constant .none _ _ => dC .non
  | .Constant (.bool b) _ _ => dC (.bl b)
  | .Constant (.int i) _ _ => dC (.int i)
  | .Constant (.str s) _ _ => dC (.str s)
  | .BinOp a op b _ => dB op (d.E g a) (d.E g b)
  | .UnaryOp .Not a _ => dNotT (d.E g a)
  | .UnaryOp op a _ => dU op (d.E g a)
  | .BoolOp op es _ => denBoE d g op es
  | .Compare a [op] [b] _ => if behindInMarks op b = true then dK else dCmp op (d.E g a) (d.E g b)
  | .Compare a [op, op'] [b, c] _ => if lastMarks [op, op'] [b, c] = true then dK else dCh op op' (d.E g a) (d.E g b) (d.E g c)
  | .IfExp c a b _ => dIf (d.T g c) (d.E g a) (d.E g b)
  | .Call (.Name x _) args [] _ => denC d g x args
  | .Call (.Name x _) args (k :: ks) _ => denK d g x args (k :: ks)
  | .Call (.Attribute o m apos) args [] pos => denM d g o m apos pos args
  | .Attribute o f _ => denF d g o f
  | .Subscript a (.Slice lo hi none _) _ => dSl (d.E g a) (denO d g lo) (denO d g hi)
  | .Subscript a b _ => if isSlice b = true then dK else denIx d g a b
  | .Tuple es _ _ => if es.any isStar = true then dK else dTup (denA d g es)
  | .List es _ => if es.any isStar = true then dK else dLst (denA d g es)
  | .ListComp el gs sc _ => denLc d g el gs sc
  | _ => dK
def plainT : Expr → Bool
  | .Name .. | .Call .. | .Subscript .. | .Constant .. | .Attribute .. | .BinOp .. => true
  | _ => false
def stepT (d : DD) (g : G) : Expr → TD
  | .UnaryOp .Not a _ => tNot (d.T g a)
  | .BoolOp op es _ => denBoT d g op es
  | .Compare a [op] [b] _ => if behindInMarks op b = true then tK else tB (dCmp op (d.E g a) (d.E g b))
  | .Compare a [op, op'] [b, c] _ => if lastMarks [op, op'] [b, c] = true then tK else tB (dCh op op' (d.E g a) (d.E g b) (d.E g c))
  | e => if plainT e = true then tE (d.E g e) else tK
def denSs (d : DD) (g : G) : List Stmt → SD
  | [] => sNx
  | [s] => d.S g s
  | s :: t :: r => sSq (d.S g s) (denSs d g (t :: r))
def gK : GD := fun _ _ _ => .stuck
def denG (d : DD) (g : G) : Expr → GD
  | .Subscript o i _ => if isSlice i = true then gK else gIx (d.E g o) (d.E g i)
  | e => match g.tg e with
    | some (_, t) => ofG t
    | none => gK
def okAs (tg e : Expr) : Bool := match tg with
  | .Name .. => !isLc e
  | .Subscript .. => true
  | .Tuple .. => !isTup e
  | _ => false
def denAug (g : G) (d : DD) (x : Str) (op : Operator) (e : Expr) : SD := match g.sto x with
  | some i => fun ev h => (dV i ev h).toS ev fun v h1 => (d.E g e ev h1).toS ev fun w h2 => (iop op v w h2).toS ev fun z h3 => .go .nx (ev.set i (some z)) h3
  | none => sK
def denH (d : DD) (g : G) : List ExceptHandler → Option (Hd)
  | [.ExceptHandler (some (.Name x np)) (some n) (b :: bs) _] => match g.cid (.Name x np), g.ix n with
    | some c, some i => if g.sc.names.lookup n == some .local && okNm n then some ⟨c, some i, fun y => denSs d { g with md := .suite y (some (n, i)) } (b :: bs)⟩ else none
    | _, _ => none
  | [.ExceptHandler (some (.Name x np)) none (b :: bs) _] => match g.cid (.Name x np) with
    | some c => some ⟨c, none, fun y => denSs d { g with md := .suite y none } (b :: bs)⟩
    | none => none
  | _ => none
def denHs (d : DD) (g : G) : List ExceptHandler → Option (List Hd)
  | [] => some []
  | h :: hs => match denH d g [h], denHs d g hs with
    | some a, some r => some (a :: r)
    | _, _ => none
def okPar (g : G) (x y : Str) (px py : Pos) (a b : Expr) : Bool := g.calm && g.sc.kind == .function && !isStar a && !isStar b && py.line == px.line && g.sc.names.lookup x == some .local && g.sc.names.lookup y == some .local && !(x == y)
  && !(foldedForSure 8 a && foldedForSure 8 b) && !(constantsAlone 8 a && constantsAlone 8 b)
def okFold (a b : Expr) : Bool := foldedForSure 8 a && foldedForSure 8 b
def denPar (d : DD) (g : G) (x y : Str) (px py : Pos) (a b : Expr) (alt : SD) : SD := match g.ix x, g.ix y with
  | some i, some j => if okPar g x y px py a b = true then sPar i j (d.E g a) (d.E g b) else if okFold a b = true then alt else sK
  | _, _ => sK
noncomputable def denFH (d : DD) (g : G) (tg it : Expr) (body : List Stmt) : SD := if g.hotOk = true then match it with
  | .Call (.Name x _) [a] [] _ => match g.glob x with
    | some .blt => if x == ("range" : Str) ∧ isStar a = false then match g.tg tg with
        | some (_, t) => sFor (iRange1 (d.E g a)) t (denSs d g body)
        | none => sK
      else sK
    | _ => sK
  | _ => sK
  else sK
noncomputable def stepS (d : DD) (g : G) : Stmt → SD
  | .Pass _ => sNx
  | .Break _ => sBk
  | .Continue _ => sCt
  | .Expr e _ => if isLc e = true then sK else sEx (d.E g e)
  | .Return (some e) _ => sRt (d.E g e)
  | .Return none _ => sRt (dC .non)
  | .If c a b _ => sIf (d.T g c) (denSs d g a) (denSs d g b)
  | .Assign [.Name y py] (.ListComp el gs sc cpos) _ => if (g.sc.names.lookup y == some .cell) = true then sAs (d.E g (.ListComp el gs sc cpos)) (denG d g (.Name y py)) else match g.sto y with
    | some i => if g.sc.names.lookup y == some .local && py.line == cpos.line && !(sc.names.any fun (n, k) => n == y && (k == .local || k == .cell)) && g.calm then sAs (denLc d g el gs sc) (ofG (gN i)) else sK
    | none => sK
  | .Assign [.Tuple [.Name x px, .Name y py] kt pt] (.Tuple [a, b] k2 pt2) _ => denPar d g x y px py a b (sAs (d.E g (.Tuple [a, b] k2 pt2)) (denG d g (.Tuple [.Name x px, .Name y py] kt pt)))
  | .Assign [.Attribute o f _] e _ => match g.fid f with
    | some i => if okBase o = true then sFl naT i (d.E g o) (d.E g e) else sK
    | none => sK
  | .Assign [tg] e _ => if okAs tg e = true then sAs (d.E g e) (denG d g tg) else sK
  | .AugAssign (.Name x _) op e _ => denAug g d x op e
  | .AugAssign (.Subscript o i _) op e _ => if isSlice i = true then sK else sAugI (iop op) (d.E g o) (d.E g i) (d.E g e)
  | .AugAssign (.Attribute o f _) op e _ => match g.fid f with
    | some i => sAugF naT i (iop op) (d.E g o) (d.E g e)
    | none => sK
  | .For tg it body [] _ => if g.calm = true ∧ isSet it = false then match g.tg tg with
      | some (_, t) => sFor (denI d g tg it) t (denSs d g body)
      | none => sK
    else denFH d g tg it body
  | .While c body [] _ => whGo (d.T g c) (denSs d g body) g.fuel
  | .Raise (some (.Call (.Name x _) [] [] _)) none _ => if g.calm = true then match g.glob x with
      | some (.cls c) => sRaise c
      | _ => sK
    else sK
  | .Raise (some (.Call (.Name x _) (a :: as) [] _)) none _ => if g.calm = true ∧ (a :: as).any isStar = false then match g.glob x with
      | some (.xcls c fs) => if fs ≠ [] ∧ fs.length < 900 then sRaiseA c fs (denA d g (a :: as)) else sK
      | _ => sK
    else sK
  | .Try body hs [] [] _ => match g.md with
    | .body => match denH d g hs with
      | some hd => sTry g.sub (denSs d g body) hd
      | none => match hs, denHs d g hs with
        | _ :: _, some hds => sTryM g.sub (denSs d g body) hds
        | _, _ => sK
    | _ => sK
  | _ => sK
noncomputable def dd : Nat → DD
  | 0 => ⟨fun _ _ => dK, fun _ _ => tK, fun _ _ => sK⟩
  | n + 1 => ⟨stepE (dd n), stepT (dd n), stepS (dd n)⟩
end Mn
namespace Mn
open PySem L2
def GlOk (K : PySem.W.Frag) (mg : Str → Option Value) (cv : Nat → Value) (x : Str) : GV → Prop
  | .blt => mg x = none
  | .bf id => mg x = some (.builtin id)
  | .val d => ∃ u v, mg x = some u ∧ RelV v u ∧ ∀ m N H, RD K m N H d v
  | .fn _ _ _ => True
  | .cls c => ∃ C, cv c = .ref C ∧ mg x = some (.ref C) ∧ PySem.W.keepIn K (.ref C) = true ∧ PySem.W.excIn K C [.type "ValueError", .type "Exception", .type "BaseException", .type "object"] "ValueError.__new__" = true ∧
      PySem.W.subIn K (.ref C) (.type "BaseException") = some true ∧ PySem.W.typeIn K (.ref C) = some (.type "type")
  | .bcls c => ∃ n : String, cv c = .type n ∧ mg x = none ∧ bootBuiltins x = some (.type n)
  | .ucls _ _ _ _ _ _ => True
  | .xcls c fs => ∃ C, cv c = .ref C ∧ mg x = some (.ref C) ∧ PySem.W.keepIn K (.ref C) = true ∧ OexC K C ∧ ∃ (fI : Addr) (fd : FuncData) (ps : List Str), PySem.W.findIn K (.ref C) "__init__" = some (some (.ref fI)) ∧ PySem.W.typeIn K (.ref fI) = some (.type "function") ∧
      (∀ (P : Program) (w : World) (mg : Str → Option Value) (base : Heap) (CX : CXT), FnOk P w K mg base CX 1 fI fd ps (spX K C (fs.map fnm))) ∧ Binds K fd ps []
def KsOk (K : PySem.W.Frag) (fd : FuncData) (ps : List Str) (n : Nat) (t : Nat × List Str × List KP × List D) : Prop := ∃ (nvs : List V) (mv : List Value), (∀ m N H, RDs K m N H t.2.2.2 nvs) ∧ KBn K fd ps (t.1 + 1) t.2.1 (fun us ws => gKP t.2.2.1 us mv ws) (fun vs zs => gKP t.2.2.1 vs nvs zs) ∧
  ∀ us mv ws : List D, us.length = t.1 + 1 → mv.length = t.2.2.2.length → ws.length = t.2.1.length → (gKP t.2.2.1 us mv ws).length = n
structure FnsOk (P : Program) (w : World) (K : PySem.W.Frag) (mg : Str → Option Value) (base : Heap) (cv : Nat → Value) (fn : Nat → Str) (gl : List (Str × GV)) (ms : List (Str × List (Nat × Nat × Nat × List D))) (k : Nat) (T : Nat → FD) : Prop where
  fns : ∀ (x : Str) (id n : Nat) (dv : List D), gl.lookup x = some (.fn id n dv) → ∃ (f : Addr) (fd : FuncData) (ps : List Str) (dvs : List V), mg x = some (.ref f) ∧ PySem.W.keepIn K (.ref f) = true ∧ ps.length = n ∧
    FnOk P w K mg base (L2N.CX P w) k f fd ps (spT ⟨K, cv, fn, none⟩ n (T id)) ∧ (∀ m N H, RDs K m N H dv dvs) ∧ ∀ j, j ≤ dv.length → ∃ ws, Vals (dvs.drop j) ws ∧ Binds K fd ps ws
  cls : ∀ (x : Str) (c id n : Nat) (dv : List D) (pc : List Nat) (ks : List (Nat × List Str × List KP × List D)), gl.lookup x = some (.ucls c id n dv pc ks) → ∃ (C g : Addr) (fd : FuncData) (ps : List Str) (dvs : List V), mg x = some (.ref C) ∧ cv c = .ref C ∧ Cls K C ∧ Mk K C g ∧ ps.length = n ∧
    FnOk P w K mg base (L2N.CX P w) k g fd ps (spT ⟨K, cv, fn, none⟩ n (T id)) ∧ (∀ m N H, RDs K m N H dv dvs) ∧ (∀ j, pc.elem j = true → j + 1 ≤ n ∧ n - (j + 1) ≤ dv.length ∧ ∃ ws, Vals (dvs.drop (dv.length - (n - (j + 1)))) ws ∧ Binds K fd ps ws) ∧ ∀ t ∈ ks, KsOk K fd ps n t
  mts : ∀ (m : Str) (l : List (Nat × Nat × Nat × List D)), ms.lookup m = some l → ∀ e ∈ l, ∃ (C g : Addr) (fd : FuncData) (ps : List Str) (dvs : List V), cv e.1 = .ref C ∧ MethP K C m e.2.2.1 g ∧ ps.length = mN e.2.2.1 ∧
    FnOk P w K mg base (L2N.CX P w) k g fd ps (spT ⟨K, cv, fn, none⟩ (mN e.2.2.1) (T e.2.1)) ∧ (∀ m N H, RDs K m N H e.2.2.2 dvs) ∧ ∀ j, j ≤ e.2.2.2.length → ∃ ws, Vals (dvs.drop j) ws ∧ Binds K fd ps ws
structure FnsHOk (P : Program) (w : World) (K : PySem.W.Frag) (mg : Str → Option Value) (base : Heap) (cv : Nat → Value) (fn : Nat → Str) (gl : List (Str × GV)) (k : Nat) (TH : Nat → FD) (TX : Nat → Xc → Hh → R D) : Prop where
  fns : ∀ (x : Str) (id n : Nat) (dv : List D), gl.lookup x = some (.fn id n dv) → ∃ (f : Addr) (fd : FuncData) (ps : List Str), mg x = some (.ref f) ∧ PySem.W.keepIn K (.ref f) = true ∧ ps.length = n ∧
    FnHX P w K mg base k f fd ps (fun _ => spT ⟨K, cv, fn, none⟩ n (TH id)) ∧ (n = 1 → FnHX P w K mg base k f fd ps (spTX K cv fn (TX id))) ∧ Binds K fd ps []
structure XOk (X : Cx) (g : G) (cv : Nat → Value) (fn : Nat → Str) (xs : Xs) : Prop where
  N : X.N = g.N
  nd : X.N.Nodup
  sc : X.env.scope = g.sc
  hu : X.A.units + 65 < cLine
  fnT : g.md ≠ .blk → ∀ x, X.fn x = true
  calm : g.calm = true → X.calm = true ∧ xs = none ∧ ∃ k, Room (k + 1) X.A ∧ 1 ≤ k ∧ FnsOk X.prog X.w X.K X.mg X.base cv fn g.gl g.ms k g.T
  gl : ∀ x v, g.gl.lookup x = some v → GlOk X.K X.mg cv x v
  sub : ∀ c1 c2 b, g.sub c1 c2 = some b → PySem.W.exmOne X.K (cv c1) (cv c2) = some b
  isi : ∀ c1 c2 b, g.isi c1 c2 = some b → PySem.W.kitOne X.K (cv c1) (cv c2) = some b ∧ ∃ C, cv c1 = .ref C ∧ ExcC X.K C
  body : g.md = .body → X.stack = X.env :: X.outer ∧ X.env.frame = some X.env.locals
  na : NaOk X.K cv naT
  xf : ∀ c f, (g.xa c).elem f = true → ∃ C, cv c = .ref C ∧ XfC X.K C ∧ PySem.W.findIn X.K (.ref C) (fnm f) = some none
  suite : ∀ y n i, g.md = .suite y (some (n, i)) → X.N[i]? = some n ∧ X.env.scope.names.lookup n = some .local ∧ okNm n = true ∧ ∃ a dd, xs = some (i, a, y, dd) ∧
    (∀ c2 b, g.isi y.cls c2 = some b → CallR X (.builtin "isinstance") (fun vs H Q => ∃ v, vs = [.ref a, v] ∧ (∀ d, dd = some d → ∃ fs, H d = some (.xd fs)) ∧ (∀ u, RelV v u → u = cv c2) ∧ Q (.bl b) H)) ∧
    ∀ f C e te pos, cv y.cls = .ref C → XfC X.K C → PySem.W.findIn X.K (.ref C) (fnm f) = some none → PE X e te → attributeBase e (fnm f) X.env (eval e X.env) = eval e X.env → PE X (.Attribute e (fnm f) pos) (tXf a (cv y.cls) dd C (fnm f) te)
  suiteN : ∀ y, g.md = .suite y none → xs = none
  dig : X.base.NoDigits
  hotN : g.md = .hot → xs = none
  hotB : g.md = .body → ∃ k, L2H.RoomH (k + 1) X.A ∧ FnsHOk X.prog X.w X.K X.mg X.base cv fn g.gl k g.TH g.TX
  hot : g.hotOk = true → ∃ (p : Addr × Obj) (k : Nat), L2H.Hot1 X.A p ∧ p ∈ X.pn ∧ L2H.RoomH (k + 1) X.A ∧ FnsHOk X.prog X.w X.K X.mg X.base cv fn g.gl k g.TH g.TX ∧ ∀ i a y dd, xs = some (i, a, y, dd) → a = p.1 ∧ L2N.Zn (cv y.cls) dd p.2
section
variable {X : Cx} {g : G} {cv : Nat → Value} {fn : Nat → Str} {xs : Xs} {W : WX} {pos : Pos}
theorem e_K {e : Expr} : PE X e (PE_ (FX X cv fn xs) W dK) := ⟨fun _ _ _ _ _ _ ⟨_, _, _, _, _, p⟩ => p.elim⟩
theorem t_K {e : Expr} : PT X e (PT_ (FX X cv fn xs) W tK) := ⟨fun _ _ _ _ _ _ ⟨_, _, _, _, _, p⟩ => p.elim⟩
theorem s_K {e : Stmt} : PS X e (PS_ (FX X cv fn xs) W sK) := ⟨fun _ _ _ _ _ _ ⟨_, _, _, _, _, p⟩ => p.elim⟩
theorem i_K {tg e : Expr} : PI X tg e (PI_ (FX X cv fn xs) W iK) := ⟨fun _ _ _ _ _ _ ⟨_, _, _, _, _, p⟩ => p.elim⟩
theorem g_K {e : Expr} : PG X e (PGD_ (FX X cv fn xs) W gK) := ⟨fun _ _ _ _ _ _ _ _ _ ⟨_, _, _, _, _, _, _, p⟩ => p.elim⟩
theorem okNm_of {x : Str} (h : okNm x = true) : (x == ("__debug__" : Str)) = false ∧ (x == ("__classdict__" : Str)) = false ∧ x ≠ "__name__" := by
  unfold okNm at h
  simp only [Bool.and_eq_true, Bool.not_eq_true'] at h
  exact ⟨h.1.1, h.1.2, fun z => by have := h.2; rw [z] at this; simp at this⟩
theorem glob_of {x : Str} {v : GV} (o : XOk X g cv fn xs) (h : g.glob x = some v) : Gl X x ∧ GlOk X.K X.mg cv x v ∧ okNm x = true ∧ g.gl.lookup x = some v := by
  unfold G.glob at h
  split at h
  · rename_i hk
    split at h
    · rename_i hn
      exact ⟨by unfold Gl Env.kindOf; rw [o.sc]; exact hk, o.gl x v h, hn, h⟩
    · cases h
  · cases h
theorem ix_of {x : Str} {i : Nat} (o : XOk X g cv fn xs) (h : g.ix x = some i) : X.N[i]? = some x := by
  unfold G.ix at h
  rw [o.N]
  obtain ⟨hl, h1, _⟩ := List.findIdx?_eq_some_iff_getElem.mp h
  rw [List.getElem?_eq_getElem hl]
  exact congrArg some (by simpa using h1)
theorem own_of {x : Str} (o : XOk X g cv fn xs) (h : g.own x = true) : Vis X.env.scope x := by
  unfold Vis
  rw [o.sc]
  unfold G.own at h
  split at h
  · exact .inl (by assumption)
  · exact .inr (.inl (by assumption))
  · exact .inr (.inr (by assumption))
  · cases h
theorem star_of {e : Expr} {es : List Expr} {env : Env} (h : isStar e = false) : starEach (e :: es) env = (false, eval e env) :: starEach es env := by
  cases e <;> first | rfl | (cases h)
theorem plain_of {env : Env} : ∀ {es : List Expr}, es.any isStar = false → (backTo pos (starEach es env)).any (·.1) = false
  | [], _ => rfl
  | e :: es, h => by
    rw [List.any_cons, Bool.or_eq_false_iff] at h
    rw [star_of h.1]
    show (false || (backTo pos (starEach es env)).any (·.1)) = false
    rw [plain_of h.2]
    rfl
theorem ixp_of {b : Expr} (h : isSlice b = false) : PlainIx b := by
  intro o i
  cases b <;> first | rfl | (cases h)
end
theorem takesN {X : Cx} : L2N.Takes X (fun _ _ _ _ => False) := fun _ _ ⟨_, _, _, _, _, _, _, _, _, _, _, _, _, _, _, _, z⟩ => z.elim
structure Sd (d : DD) : Prop where
  E : ∀ (X : Cx) (g : G) (cv : Nat → Value) (fn : Nat → Str) (xs : Xs) (W : WX), XOk X g cv fn xs → L2N.Takes X W → ∀ e, PE X e (PE_ (FX X cv fn xs) W (d.E g e))
  T : ∀ (X : Cx) (g : G) (cv : Nat → Value) (fn : Nat → Str) (xs : Xs) (W : WX), XOk X g cv fn xs → L2N.Takes X W → ∀ e, PT X e (PT_ (FX X cv fn xs) W (d.T g e))
  S : ∀ (X : Cx) (g : G) (cv : Nat → Value) (fn : Nat → Str) (xs : Xs) (W : WX), XOk X g cv fn xs → L2N.Takes X W → PassesOwn (model X.prog X.w) X.A X.env X.xe → g.md ≠ .blk → ∀ e, PS X e (PS_ (FX X cv fn xs) W (d.S g e))
section
variable {X : Cx} {g : G} {cv : Nat → Value} {fn : Nat → Str} {xs : Xs} {W : WX} {pos : Pos} {d : DD}
theorem d_A (hd : Sd d) (o : XOk X g cv fn xs) (tk : L2N.Takes X W) : ∀ (es : List Expr), es.any isStar = false → PA X es (PA_ (FX X cv fn xs) W (denA d g es))
  | [], _ => s_aN
  | e :: es, h => by
    rw [List.any_cons, Bool.or_eq_false_iff] at h
    exact s_aC (hd.E X g cv fn xs W o tk e) (d_A hd o tk es h.2) (star_of h.1)
theorem denA_len : ∀ (es : List Expr) (e : Ev) (h : Hh) (ds : List D) (h' : Hh), denA d g es e h = .ok ds h' → ds.length = es.length
  | [], e, h, ds, h', q => by cases q; rfl
  | a :: es, e, h, ds, h', q => by
    unfold denA aC at q
    cases qa : d.E g a e h with
    | stuck => rw [qa] at q; cases q
    | exc x h1 => rw [qa] at q; cases q
    | ok v h1 =>
      rw [qa] at q
      change ((denA d g es e h1).bind fun ds h2 => .ok (v :: ds) h2) = .ok ds h' at q
      cases qb : denA d g es e h1 with
      | stuck => rw [qb] at q; cases q
      | exc x h2 => rw [qb] at q; cases q
      | ok vs h2 =>
        rw [qb] at q
        cases q
        rw [List.length_cons, denA_len es _ _ _ _ qb]
        rfl
theorem d_cb {x : Str} {p : Pos} {id : String} {r : FD} {es : List Expr} {a : Expr} (hd : Sd d) (o : XOk X g cv fn xs) (tk : L2N.Takes X W) (hg : g.glob x = some .blt) (hv : bootBuiltins x = some (.builtin id)) (hc : CallR X (.builtin id) (rN (FX X cv fn xs) r)) (hs : (a :: es).any isStar = false) :
    PE X (.Call (.Name x p) (a :: es) [] pos) (PE_ (FX X cv fn xs) W (dCall r (denA d g (a :: es)) [])) := by
  obtain ⟨gl, ok, nm, _⟩ := glob_of o hg
  obtain ⟨n1, n2, n3⟩ := okNm_of nm
  have hs' := hs
  rw [List.any_cons, Bool.or_eq_false_iff] at hs'
  exact peImp (pe_callB hc gl ok hv (d_A hd o tk _ hs) n3 n1 (star_of hs'.1) (plain_of hs'.2)) fun _ _ _ q => bindN q
theorem d_ct {x : Str} {p : Pos} {id : String} {r : FD} {es : List Expr} {a : Expr} (hd : Sd d) (o : XOk X g cv fn xs) (tk : L2N.Takes X W) (hg : g.glob x = some .blt) (hv : bootBuiltins x = some (.type id)) (hc : CallR X (.type id) (rN (FX X cv fn xs) r)) (hs : (a :: es).any isStar = false) :
    PE X (.Call (.Name x p) (a :: es) [] pos) (PE_ (FX X cv fn xs) W (dCall r (denA d g (a :: es)) [])) := by
  obtain ⟨gl, ok, nm, _⟩ := glob_of o hg
  obtain ⟨n1, n2, n3⟩ := okNm_of nm
  have hs' := hs
  rw [List.any_cons, Bool.or_eq_false_iff] at hs'
  exact peImp (pe_callTy hc gl ok hv (d_A hd o tk _ hs) n3 n1 (star_of hs'.1) (plain_of hs'.2)) fun _ _ _ q => bindN q
theorem seq_str {x y : Str} (h : (x == y) = true) : x = y := by simpa using h
theorem exc_of {y : Xc} {a : Expr} (h : g.exc a = some y) : ∃ n pn i, a = .Name n pn ∧ g.md = .suite y (some (n, i)) := by
  unfold G.exc at h
  split at h
  · rename_i n pn
    split at h
    · rename_i y' n' i' hm
      split at h
      · rename_i hn
        cases h
        cases seq_str hn
        exact ⟨_, _, _, rfl, hm⟩
      · cases h
    · cases h
  · cases h
theorem rxf_dict {K : PySem.W.Frag} {m : Nat → Addr} {N : Nat} {H : Hp} {fs : List (Nat × D)} {dd : Option Addr} (r : RXf K m N H fs dd) : ∀ d, dd = some d → ∃ fs, H d = some (.xd fs) := fun d e => by
  by_cases z : fs = []
  · have := r.1 z; rw [e] at this; cases this
  · obtain ⟨dx, vs, e1, e2, _⟩ := r.2 z
    rw [e] at e1
    cases e1
    exact ⟨vs, e2⟩
theorem d_is {p : Pos} {a b : Expr} (hd : Sd d) (o : XOk X g cv fn xs) (tk : L2N.Takes X W) (hg : g.glob "isinstance" = some .blt) (hs : [a, b].any isStar = false) :
    PE X (.Call (.Name "isinstance" p) [a, b] [] pos) (PE_ (FX X cv fn xs) W (denIs d g a b)) := by
  obtain ⟨gl, ok, nm, _⟩ := glob_of o hg
  obtain ⟨n1, n2, n3⟩ := okNm_of nm
  simp only [List.any_cons, List.any_nil, Bool.or_false, Bool.or_eq_false_iff] at hs
  have ha1 : starEach [a, b] X.env = [(false, eval a X.env), (false, eval b X.env)] := by rw [star_of hs.1, star_of hs.2]; rfl
  have hb1 : starEach [b] X.env = [(false, eval b X.env)] := by rw [star_of hs.2]; rfl
  have hpl : (backTo pos (starEach [b] X.env)).any (·.1) = false := plain_of (by simp [hs.2])
  unfold denIs
  split
  · rename_i y ey
    split
    · rename_i c ec
      unfold isX
      split
      · rename_i k ek
        obtain ⟨n, pn, i', ea, hm⟩ := exc_of ey
        subst ea
        obtain ⟨hi, hloc, hnm, ad, dd, hxs, hcall, _⟩ := o.suite _ _ _ hm
        have hc := hcall c k ek
        -- the class
        obtain ⟨v, hv, hPE⟩ : ∃ v, (∀ u, RelV v u → u = cv c) ∧ PE X b (tC v) := by
          unfold G.cid at ec
          split at ec
          · rename_i z pz
            split at ec
            · rename_i c' hz
              cases ec
              obtain ⟨gz, ⟨C, e1, e2, _⟩, nz, _⟩ := glob_of o hz
              exact ⟨.ref C, fun u r => by rw [e1]; exact r, pe_glob gz e2 rfl (okNm_of nz).1⟩
            · rename_i c' hz
              cases ec
              obtain ⟨gz, ⟨C, e1, e2, e3⟩, nz, _⟩ := glob_of o hz
              exact ⟨.ty C, fun u r => by rw [e1]; exact r, pe_bltn gz e2 e3 rfl (okNm_of nz).2.2 (okNm_of nz).1⟩
            · rename_i c' _ hz
              cases ec
              obtain ⟨gz, ⟨C, e1, e2, _⟩, nz, _⟩ := glob_of o hz
              exact ⟨.ref C, fun u r => by rw [e1]; exact r, pe_glob gz e2 rfl (okNm_of nz).1⟩
            · cases ec
          · cases ec
        have hvis : PE X (.Name n pn) (fun σ H Q => σ[i']? = some (some (.ref ad)) ∧ Q (.ref ad) H) :=
          peImp (pe_var hi (.inl hloc) (okNm_of hnm).1 (okNm_of hnm).2.1) fun σ H Q q => ⟨_, q.1, q.2⟩
        refine peImp (pe_callB hc gl ok (by rfl) (pa2 hvis hPE ha1 hb1) n3 n1 (by rw [ha1, hb1]) hpl) fun σ H Q q => ?_
        obtain ⟨m, e, h, rh, re, p⟩ := q
        obtain ⟨e1, e2⟩ := re.exc i' ad y dd hxs
        exact ⟨e1, v, rfl, rxf_dict e2, hv, p.here rh (.bl _)⟩
      · exact e_K
    · exact e_K
  · split
    · rename_i t pt
      split
      · rename_i ty h1 h2
        obtain ⟨gt, mt, nt, _⟩ := glob_of o h1
        have key : ∃ tn : String, ty.nm = tn ∧ bootBuiltins t = some (.type tn) := by
          unfold tyOf at h2
          split at h2
          · rename_i z; cases h2; rw [seq_str z]; exact ⟨_, rfl, by rfl⟩
          · split at h2
            · rename_i z; cases h2; rw [seq_str z]; exact ⟨_, rfl, by rfl⟩
            · split at h2
              · rename_i z; cases h2; rw [seq_str z]; exact ⟨_, rfl, by rfl⟩
              · split at h2
                · rename_i z; cases h2; rw [seq_str z]; exact ⟨_, rfl, by rfl⟩
                · split at h2
                  · rename_i z; cases h2; rw [seq_str z]; exact ⟨_, rfl, by rfl⟩
                  · cases h2
        obtain ⟨tn, k1, k2⟩ := key
        exact s_is k1 gl ok (pe_bltn (v := .ty tn) gt mt k2 rfl (okNm_of nt).2.2 (okNm_of nt).1) (hd.E X g cv fn xs W o tk a) ha1 hb1 hpl
      · exact e_K
    · exact e_K
end
end Mn
namespace Mn
open PySem L2
section
variable {X : Cx} {g : G} {cv : Nat → Value} {fn : Nat → Str} {xs : Xs} {W : WX} {pos : Pos} {d : DD}
theorem beqs {x y : Str} (h : (x == y) = true) : x = y := by simpa using h
theorem rng_rd {K : PySem.W.Frag} {m : Nat → Addr} {N : Nat} {H : Hp} {lo : Int} {n : Nat} : RDs K m N H ((List.range n).map fun (i : Nat) => D.int (lo + (i : Int))) ((List.range n).map fun (i : Nat) => V.int (lo + (i : Int))) := by
  generalize List.range n = l
  induction l with
  | nil => exact .nil
  | cons a l ih => exact .cons (.int _) ih
theorem d_L {p : Pos} {a : Expr} (hd : Sd d) (o : XOk X g cv fn xs) (tk : L2N.Takes X W) (hg : g.glob "list" = some .blt) (hs : [a].any isStar = false) :
    PE X (.Call (.Name "list" p) [a] [] pos) (PE_ (FX X cv fn xs) W (denL d g a)) := by
  have plain : PE X (.Call (.Name "list" p) [a] [] pos) (PE_ (FX X cv fn xs) W (dCall fList (denA d g [a]) [])) := d_ct hd o tk hg (by rfl) c_list hs
  obtain ⟨gl, ml, nl, _⟩ := glob_of o hg
  unfold denL
  split
  · split
    · rename_i b pos2 oo hb
      obtain ⟨gy, my, ny, _⟩ := glob_of o hb
      split
      · exact plain
      · rename_i hst
        have hst := Bool.eq_false_iff.mpr hst
        split
        · rename_i z
          cases beqs z
          split
          · rename_i hc
            obtain ⟨cm, hxs, _⟩ := o.calm hc
            refine peImp (pe_lRev cm gl ml gy my (hd.E X g cv fn xs W o tk b) (star_of hst)) fun σ H Q q => ?_
            obtain ⟨m, e, h, rh, re, p⟩ := q
            refine ⟨m, e, h, rh, re, ?_⟩
            have p' := p
            unfold dCall denA at p'
            unfold aC denA aN at p'
            cases qb : d.E g b e h with
            | stuck => rw [qb] at p'; exact p'.elim
            | exc x h1 => rw [qb] at p'; exact p'
            | ok v h1 =>
              rw [qb] at p'
              intro m1 H1 w g1 rh1 r1
              have p1 : PO (FX X cv fn xs) W (rdR (FX X cv fn xs)) σ m1 h1 H1 (fLRev [v] h1) Q := PO.base (r := fLRev [v] h1) p' g1
              unfold fLRev at p1
              split at p1
              · rename_i n e0
                cases e0
                cases r1
                split at p1
                · rename_i ys ey
                  obtain ⟨_, vs, sq, r⟩ := rh1.lst ey
                  exact ⟨_, vs, rfl, sq, p1.new rh1 r.reverse⟩
                · exact p1.elim
              · exact p1.elim
          · exact e_K
        · split
          · rename_i z
            cases beqs z
            split
            · rename_i hc
              obtain ⟨cm, hxs, _⟩ := o.calm hc
              refine peImp (pe_listRg cm gl ml (prg_1 gy my (hd.E X g cv fn xs W o tk b) (star_of hst)) rfl) fun σ H Q q => ?_
              obtain ⟨m, e, h, rh, re, p⟩ := q
              refine ⟨m, e, h, rh, re, ?_⟩
              have p' := p
              unfold dCall denA at p'
              unfold aC denA aN at p'
              cases qb : d.E g b e h with
              | stuck => rw [qb] at p'; exact p'.elim
              | exc x h1 => rw [qb] at p'; exact p'
              | ok v h1 =>
                rw [qb] at p'
                intro m1 H1 w g1 rh1 r1
                have p1 : PO (FX X cv fn xs) W (rdR (FX X cv fn xs)) σ m1 h1 H1 (fLRng [v] h1) Q := PO.base (r := fLRng [v] h1) p' g1
                unfold fLRng at p1
                split at p1
                · rename_i n e0
                  cases e0
                  cases r1
                  split at p1
                  · rename_i hb
                    have b2 : n < 16777216 := hb.2
                    refine ⟨_, rfl, ⟨by omega, by omega, hb.1, by omega, by omega⟩, ?_⟩
                    have e3 : rgV 0 n = (rgV 0 n) := rfl
                    refine p1.new rh1 ?_
                    unfold rgV rngD
                    rw [Int.sub_zero]
                    exact rng_rd
                  · exact p1.elim
                · rename_i e0; cases e0
                · exact p1.elim
            · exact e_K
          · exact plain
    · exact plain
  · split
    · rename_i b c pos2 oo hb
      obtain ⟨gy, my, ny, _⟩ := glob_of o hb
      split
      · exact plain
      · rename_i hst
        simp only [not_or, Bool.not_eq_true] at hst
        split
        · rename_i z
          cases beqs z
          split
          · rename_i hc
            obtain ⟨cm, hxs, _⟩ := o.calm hc
            refine peImp (pe_listRg cm gl ml (prg_2 gy my (hd.E X g cv fn xs W o tk b) (hd.E X g cv fn xs W o tk c) (star_of hst.1) (star_of hst.2) (by rw [star_of hst.2]; rfl)) rfl) fun σ H Q q => ?_
            obtain ⟨m, e, h, rh, re, p⟩ := q
            refine ⟨m, e, h, rh, re, ?_⟩
            have p' := p
            unfold dCall denA aC denA at p'
            unfold aC denA aN at p'
            cases qb : d.E g b e h with
            | stuck => rw [qb] at p'; exact p'.elim
            | exc x h1 => rw [qb] at p'; exact p'
            | ok v h1 =>
              rw [qb] at p'
              intro m1 H1 w g1 rh1 r1
              refine ⟨m1, e, h1, rh1, g1.re re, ?_⟩
              change PO _ _ _ _ _ _ _ ((((d.E g c e h1).bind fun d2 h2 => R.ok [d2] h2).bind fun ds h2 => R.ok (v :: ds) h2).bind fun ds h1 => fLRng (ds ++ []) h1) Q at p'
              cases qc : d.E g c e h1 with
              | stuck => rw [qc] at p'; exact p'.elim
              | exc x h1 => rw [qc] at p'; exact PO.base (r := R.exc x h1) p' g1
              | ok v2 h2 =>
                rw [qc] at p'
                intro m2 H2 w2 g2 rh2 r2
                have p1 : PO (FX X cv fn xs) W (rdR (FX X cv fn xs)) σ m2 h2 H2 (fLRng [v, v2] h2) Q := PO.base (r := fLRng [v, v2] h2) p' (g1.trans g2)
                have r1' := g2.rd r1
                unfold fLRng at p1
                split at p1
                · rename_i e0; cases e0
                · rename_i lo n e0
                  cases e0
                  cases r1'
                  cases r2
                  split at p1
                  · rename_i hb
                    have b2 : (n - lo).toNat ≤ 16777216 := hb.2.2.2.2
                    refine ⟨_, _, rfl, rfl, ⟨hb.1, hb.2.1, hb.2.2.1, hb.2.2.2.1, by omega⟩, ?_⟩
                    refine p1.new rh2 ?_
                    unfold rgV rngD
                    exact rng_rd
                  · exact p1.elim
                · exact p1.elim
          · exact e_K
        · exact plain
    · exact plain
  · exact plain
theorem d_Len {p : Pos} {a : Expr} (hd : Sd d) (o : XOk X g cv fn xs) (tk : L2N.Takes X W) (hg : g.glob "len" = some .blt) (hs : [a].any isStar = false) :
    PE X (.Call (.Name "len" p) [a] [] pos) (PE_ (FX X cv fn xs) W (denLen d g a)) := by
  have plain : PE X (.Call (.Name "len" p) [a] [] pos) (PE_ (FX X cv fn xs) W (dCall fLen (denA d g [a]) [])) := d_cb hd o tk hg (by rfl) c_len hs
  obtain ⟨gl, ml, nl, _⟩ := glob_of o hg
  unfold denLen
  split
  · split
    · rename_i b pos2 oo hb
      obtain ⟨gy, my, ny, _⟩ := glob_of o hb
      split
      · exact plain
      · rename_i hst
        have hst := Bool.eq_false_iff.mpr hst
        split
        · rename_i z
          cases beqs z
          split
          · rename_i hc
            obtain ⟨cm, hxs, _⟩ := o.calm hc
            refine peImp (pe_setK cm gl ml gy my (hd.E X g cv fn xs W o tk b) (star_of hst)) fun σ H Q q => ?_
            obtain ⟨m, e, h, rh, re, p⟩ := q
            refine ⟨m, e, h, rh, re, ?_⟩
            have p' := p
            unfold dCall denA at p'
            unfold aC denA aN at p'
            cases qb : d.E g b e h with
            | stuck => rw [qb] at p'; exact p'.elim
            | exc x h1 => rw [qb] at p'; exact p'
            | ok v h1 =>
              rw [qb] at p'
              intro m1 H1 w g1 rh1 r1
              have p1 : PO (FX X cv fn xs) W (rdR (FX X cv fn xs)) σ m1 h1 H1 (fLenS [v] h1) Q := PO.base (r := fLenS [v] h1) p' g1
              unfold fLenS at p1
              split at p1
              · rename_i n e0
                cases e0
                cases r1
                split at p1
                · rename_i ys ey
                  split at p1
                  · rename_i ks ek
                    split at p1
                    · rename_i h4
                      obtain ⟨_, vs, sq, r⟩ := rh1.lst ey
                      have ev := dKeys_rd r ek
                      subst ev
                      exact ⟨_, ks, rfl, sq, h4, p1 m1 H1 _ Ge.refl rh1 (.int _)⟩
                    · exact p1.elim
                  · exact p1.elim
                · exact p1.elim
              · exact p1.elim
          · exact e_K
        · exact plain
    · exact plain
  · exact plain
theorem pe_ite {e : Expr} {c : Prop} [Decidable c] {fa fb : ED} (h1 : c → PE X e (PE_ (FX X cv fn xs) W fa)) (h2 : ¬ c → PE X e (PE_ (FX X cv fn xs) W fb)) : PE X e (PE_ (FX X cv fn xs) W (if c then fa else fb)) := by
  by_cases z : c
  · rw [if_pos z]; exact h1 z
  · rw [if_neg z]; exact h2 z
theorem d_B {x : Str} {p : Pos} {es : List Expr} (hd : Sd d) (o : XOk X g cv fn xs) (tk : L2N.Takes X W) (hg : g.glob x = some .blt) (hs : es.any isStar = false) :
    PE X (.Call (.Name x p) es [] pos) (PE_ (FX X cv fn xs) W (denB d g x es)) := by
  unfold denB
  split
  · refine pe_ite (fun z => by cases beqs z; exact d_Len hd o tk hg hs) fun _ => ?_
    refine pe_ite (fun z => by cases beqs z; exact d_cb hd o tk hg (by rfl) c_abs hs) fun _ => ?_
    refine pe_ite (fun z => by cases beqs z; exact d_ct hd o tk hg (by rfl) c_int hs) fun _ => ?_
    refine pe_ite (fun z => by cases beqs z; exact pe_ite (fun hc => d_ct hd o tk hg (by rfl) (c_strL (o.calm hc).1 o.dig) hs) fun _ => d_ct hd o tk hg (by rfl) c_str hs) fun _ => ?_
    refine pe_ite (fun z => by cases beqs z; exact d_L hd o tk hg hs) fun _ => ?_
    refine pe_ite (fun z => by cases beqs z; exact d_ct hd o tk hg (by rfl) c_tuple hs) fun _ => ?_
    refine pe_ite (fun z => by cases beqs z; exact d_ct hd o tk hg (by rfl) c_rng1 hs) fun _ => ?_
    refine pe_ite (fun hc => ?_) fun _ => e_K
    have hc' := (o.calm hc).1
    refine pe_ite (fun z => by cases beqs z; exact d_cb hd o tk hg (by rfl) (c_sum hc') hs) fun _ => ?_
    refine pe_ite (fun z => by cases beqs z; exact d_cb hd o tk hg (by rfl) (c_all hc') hs) fun _ => ?_
    refine pe_ite (fun z => by cases beqs z; exact d_cb hd o tk hg (by rfl) (c_any hc') hs) fun _ => ?_
    exact pe_ite (fun z => by cases beqs z; exact d_cb hd o tk hg (by rfl) c_sorted hs) fun _ => e_K
  · split
    · rename_i z; cases beqs z; exact d_is hd o tk hg hs
    · split
      · rename_i hc
        have hc' := (o.calm hc).1
        split
        · rename_i z; cases beqs z; exact d_cb hd o tk hg (by rfl) (c_max hc') hs
        · split
          · rename_i z; cases beqs z; exact d_cb hd o tk hg (by rfl) (c_min hc') hs
          · exact e_K
      · exact e_K
  · exact e_K
theorem d_HC {x : Str} {p : Pos} {id n : Nat} {dv : List D} {es : List Expr} (hd : Sd d) (o : XOk X g cv fn xs) (tk : L2N.Takes X W) (hg : g.glob x = some (.fn id n dv)) (hs : es.any isStar = false) : PE X (.Call (.Name x p) es [] pos) (PE_ (FX X cv fn xs) W (denHC d g id n es)) := by
  unfold denHC
  refine pe_ite (fun hh => ?_) fun _ => e_K
  obtain ⟨gl, _, nm, lk⟩ := glob_of o hg
  obtain ⟨n1, n2, n3⟩ := okNm_of nm
  obtain ⟨pp, k, h1, hp, hr, F, hx⟩ := o.hot hh
  obtain ⟨f, fd, ps, m1, m2, m3, m4, m5, m6⟩ := F.fns x id n dv lk
  have hr' := hr.mono (Nat.le_succ k)
  cases es with
  | nil => exact e_K
  | cons a r =>
    have hs' := hs
    rw [List.any_cons, Bool.or_eq_false_iff] at hs'
    dsimp only
    split
    · rename_i y ey
      refine pe_ite (fun hc => ?_) fun _ => e_K
      obtain ⟨hn, rfl⟩ := hc
      obtain ⟨nn, pn, i', ea, hm⟩ := exc_of ey
      subst ea
      obtain ⟨hi, hloc, hnm, ad, dd, hxs, _, _⟩ := o.suite _ _ _ hm
      obtain ⟨e1, e2⟩ := hx _ _ _ _ hxs
      have hvis : PE X (.Name nn pn) (fun σ H Q => σ[i']? = some (some (.ref ad)) ∧ Q (.ref ad) H) :=
        peImp (pe_var hi (.inl hloc) (okNm_of hnm).1 (okNm_of hnm).2.1) fun σ H Q q => ⟨_, q.1, q.2⟩
      have hst : starEach [.Name nn pn] X.env = [(false, eval (.Name nn pn) X.env)] := star_of hs'.1
      exact s_callXX (m5 hn) hr' h1 hp hxs e1 e2 gl m1 m2 m6 tk (pa1 hvis hst) n1 hst
    · refine pe_ite (fun hl => ?_) fun _ => e_K
      subst m3
      exact s_callHX m4 hr' h1 hp gl m1 m2 m6 hl (fun e h ds h' q => denA_len _ _ _ _ _ q) tk (d_A hd o tk _ hs) n1 (star_of hs'.1) (plain_of hs'.2)
theorem d_C {x : Str} {p : Pos} {es : List Expr} (hd : Sd d) (o : XOk X g cv fn xs) (tk : L2N.Takes X W) : PE X (.Call (.Name x p) es [] pos) (PE_ (FX X cv fn xs) W (denC d g x es)) := by
  unfold denC
  split
  · exact e_K
  · rename_i hs
    have hs : es.any isStar = false := by simpa using hs
    split
    · rename_i id n dv hg
      split
      · rename_i hc
        obtain ⟨hc, hl, hn⟩ := hc
        obtain ⟨gl, _, nm, lk⟩ := glob_of o hg
        obtain ⟨n1, n2, n3⟩ := okNm_of nm
        obtain ⟨cm, hxs, k, hr, _, fns⟩ := o.calm hc
        obtain ⟨f, fd, ps, dvs, h1, h2, h3, h4, h5, h7⟩ := fns.fns x id n dv lk
        have hr := hr.mono (Nat.le_succ k)
        subst hxs
        have hlen : dv.length = dvs.length := (h5 (fun _ => 0) 0 (fun _ => none)).length
        obtain ⟨ws, hv, hb⟩ := h7 (dv.length - (n - es.length)) (Nat.sub_le _ _)
        have hdd : ∀ m N H, RDs X.K m N H (dv.drop (dv.length - (n - es.length))) (dvs.drop (dv.length - (n - es.length))) := fun m N H => (h5 m N H).drop _
        have hq : (dvs.drop (dv.length - (n - es.length))).length = n - es.length := by rw [List.length_drop, ← hlen]; omega
        subst h3
        cases es with
        | nil =>
          exact s_call0 h4 hr gl h1 h2 hb hv hdd (by rw [hq]; exact Nat.sub_zero _) tk n1
        | cons a es =>
          have hs' := hs
          rw [List.any_cons, Bool.or_eq_false_iff] at hs'
          exact s_call h4 hr gl h1 h2 hb hv hdd (by rw [hq]; omega) (fun e h ds h' q => denA_len _ _ _ _ _ q) tk (d_A hd o tk _ hs) n1 (star_of hs'.1) (plain_of hs'.2)
      · exact d_HC hd o tk hg hs
    · rename_i f hg
      split
      · rename_i hf
        obtain ⟨rfl, hne⟩ := hf
        obtain ⟨gl, hm, nm, lk⟩ := glob_of o hg
        obtain ⟨n1, n2, n3⟩ := okNm_of nm
        cases es with
        | nil => exact absurd rfl hne
        | cons a es =>
          have hs' := hs
          rw [List.any_cons, Bool.or_eq_false_iff] at hs'
          exact peImp (pe_callBfun c_gcd gl hm (d_A hd o tk _ hs) n1 (star_of hs'.1) (plain_of hs'.2)) fun _ _ _ q => bindN q
      · exact e_K
    · rename_i hg
      exact d_B hd o tk hg hs
    · rename_i c id n dv pc ks hg
      split
      · rename_i hc
        obtain ⟨hc, hp⟩ := hc
        obtain ⟨gl, _, nm, lk⟩ := glob_of o hg
        obtain ⟨cm, hxs, k, hr, _, fns⟩ := o.calm hc
        obtain ⟨C, gI, fd, ps, dvs, h1, h2, h3, h4, h5, h6, h7, h8, _⟩ := fns.cls x c id n dv pc ks lk
        subst hxs
        obtain ⟨l1, l2, ws, hv, hb⟩ := h8 es.length hp
        have hlen : dv.length = dvs.length := (h7 (fun _ => 0) 0 (fun _ => none)).length
        have hs' : es.any isStar = false := by simpa using hs
        subst h5
        refine s_mk ⟨h2, h3, h4, h6, hr⟩ gl h1 (d_A hd o tk _ hs') tk (fun e h ds h' q => denA_len _ _ _ _ _ q) (fun z => by rw [z]; rfl) hb hv (fun m N H => (h7 m N H).drop _) ?_ (fun e r z => ?_) (okNm_of nm).1
        · rw [List.length_drop, ← hlen]; omega
        · subst z
          rw [List.any_cons, Bool.or_eq_false_iff] at hs'
          exact ⟨star_of hs'.1, plain_of hs'.2⟩
      · exact e_K
    · exact e_K
theorem kwn_of {env : Env} : ∀ {kws : List Keyword} {l : List Str}, kwn kws = some l → (backToKw pos (keywordEach kws env)).all (·.1.isSome) = true ∧ (backToKw pos (keywordEach kws env)).filterMap (·.1) = l ∧ (backToKw pos (keywordEach kws env)).any (·.1.isNone) = false ∧ kws.length = l.length
  | [], l, h => by cases h; exact ⟨rfl, rfl, rfl, rfl⟩
  | ⟨nm, e, kp⟩ :: kws, l, h => by
    unfold kwn at h
    dsimp only at h
    split at h
    · rename_i x l' hl
      cases h
      obtain ⟨a, b, c, d⟩ := kwn_of (env := env) hl
      refine ⟨?_, ?_, ?_, congrArg Nat.succ d⟩
      · show (true && (backToKw pos (keywordEach kws env)).all (·.1.isSome)) = true
        rw [a]; rfl
      · show x :: (backToKw pos (keywordEach kws env)).filterMap (·.1) = x :: l'
        rw [b]
      · show (false || (backToKw pos (keywordEach kws env)).any (·.1.isNone)) = false
        rw [c]; rfl
    · cases h
theorem d_PK (hd : Sd d) (o : XOk X g cv fn xs) (tk : L2N.Takes X W) : ∀ (kws : List Keyword), PK X kws (PA_ (FX X cv fn xs) W (denA d g (kws.map (·.value))))
  | [] => pk_D0
  | ⟨nm, e, kp⟩ :: kws => pk_D (hd.E X g cv fn xs W o tk e) (d_PK hd o tk kws)
theorem d_K {x : Str} {p : Pos} {es : List Expr} {kws : List Keyword} (hd : Sd d) (o : XOk X g cv fn xs) (tk : L2N.Takes X W) : PE X (.Call (.Name x p) es kws pos) (PE_ (FX X cv fn xs) W (denK d g x es kws)) := by
  unfold denK
  split
  · rename_i c id n dv pc ks hg
    split
    · rename_i l hl
      split
      · rename_i t ht
        split
        · rename_i hc
          obtain ⟨hc, hs⟩ := hc
          obtain ⟨gl, _, nm, lk⟩ := glob_of o hg
          obtain ⟨cm, hxs, k, hr, _, fns⟩ := o.calm hc
          obtain ⟨C, gI, fd, ps, dvs, h1, h2, h3, h4, h5, h6, h7, h8, h10⟩ := fns.cls x c id n dv pc ks lk
          subst hxs
          have htm := List.mem_of_find?_eq_some ht
          have htp := List.find?_some ht
          simp only [Bool.and_eq_true] at htp
          obtain ⟨t1, t2⟩ := htp
          have t1 : t.1 = es.length := by simpa using t1
          have t2 : t.2.1 = l := by simpa using t2
          obtain ⟨nvs, mv, h9, hb, hn⟩ := h10 t htm
          rw [t1, t2] at hb
          rw [t1, t2] at hn
          obtain ⟨k1, k2, k3, k4⟩ := kwn_of (pos := pos) (env := X.env) hl
          subst h5
          have hpl1 : (backTo pos (starEach es X.env)).any (·.1) = false := plain_of hs
          refine s_mkK ⟨h2, h3, h4, h6, hr⟩ gl h1 (d_A hd o tk _ hs) (d_PK hd o tk kws) tk (fun e h ds h' q => denA_len _ _ _ _ _ q) (fun e h ds h' q => (denA_len _ _ _ _ _ q).trans ((List.length_map ..).trans k4)) (fun z => by rw [z]; rfl) hb h9 hn (fun e r z => ?_) k1 k2 (by rw [hpl1, k3]; rfl) (okNm_of nm).1
          subst z
          rw [List.any_cons, Bool.or_eq_false_iff] at hs
          exact star_of hs.1
        · exact e_K
      · exact e_K
    · exact e_K
  · exact e_K
theorem tyV_L {T : Fx} {m : Nat → Addr} {h : Hh} {H : Hp} {x : D} {v : V} (rh : RH T m h H) (r : RD T.K m h.length H x v) (c : chkL x h = true) : tyV T.K "list" v H := by
  cases x with
  | ref n =>
    cases r
    obtain ⟨ds, e⟩ := Option.isSome_iff_exists.mp (show (lstAt h n).isSome = true from c)
    obtain ⟨_, vs, q, _⟩ := rh.lst e
    exact .inl ⟨rfl, vs, q⟩
  | _ => cases c
theorem tyV_S {T : Fx} {m : Nat → Addr} {h : Hh} {H : Hp} {x : D} {v : V} (r : RD T.K m h.length H x v) (c : chkS x h = true) : tyV T.K "str" v H := by
  cases x with
  | str n =>
    cases r
    rfl
  | _ => cases c
theorem base_of {oe : Expr} {m : Str} {env : Env} (h : okBase oe = true) : attributeBase oe m env (eval oe env) = eval oe env := by
  cases oe with
  | Call f args kws p => cases f <;> cases args <;> first | rfl | (cases h; done)
  | Name x p => rfl
  | Attribute a b c => rfl
  | Subscript a b c => rfl
  | Constant a b c => rfl
  | List a b => rfl
  | _ => cases h
theorem few_of {env : Env} : ∀ {es : List Expr}, es.any isStar = false → (backTo pos (starEach es env)).all (fun x => !x.1) = true
  | [], _ => rfl
  | e :: es, h => by
    rw [List.any_cons, Bool.or_eq_false_iff] at h
    rw [star_of h.1]
    show (!false && (backTo pos (starEach es env)).all (fun x => !x.1)) = true
    rw [few_of h.2]
    rfl
theorem m_rd {c : D → Hh → Bool} {f : D → List D → Hh → R D} {fa : ED} {fs : AD} {n : String} {σ : L2.St} {H : Hp} {Q : VK} (ht : ∀ m h H x v, RH (FX X cv fn xs) m h H → RD X.K m h.length H x v → c x h = true → tyV X.K n v H) (q : PE_ (FX X cv fn xs) W (dM c f fa fs) σ H Q) :
    PE_ (FX X cv fn xs) W fa σ H fun x H1 => tyV X.K n x H1 ∧ PA_ (FX X cv fn xs) W fs σ H1 fun ys H2 => rM (FX X cv fn xs) f x ys H2 Q := by
  obtain ⟨m, e, h, rh, re, p⟩ := q
  refine ⟨m, e, h, rh, re, p.bind fun dx h1 m1 H1 xv g1 rh1 rx p1 => ?_⟩
  split at p1
  · rename_i hc
    exact ⟨ht _ _ _ _ _ rh1 rx hc, m1, e, h1, rh1, g1.re re, p1.bind fun ds h2 m2 H2 ys g2 rh2 ry p2 => ⟨W, σ, m2, h2, dx, ds, rh2, g2.rd rx, ry, p2⟩⟩
  · exact p1.elim
theorem d_mt {oe : Expr} {m : Str} {apos : Pos} {n id : String} {c : D → Hh → Bool} {f : D → List D → Hh → R D} {a : Expr} {es : List Expr} (hd : Sd d) (o : XOk X g cv fn xs) (tk : L2N.Takes X W) (hs : (a :: es).any isStar = false) (hl : (a :: es).length < 20) (hp : (apos.endLine == pos.line) = true) (hb : okBase oe = true)
    (pa : PlainAttrs n) (sl : Slot n m id) (ty : typeOf (.builtin id) = pure (.type "method_descriptor")) (hm : MtR X id (rM (FX X cv fn xs) f)) (ht : ∀ m h H x v, RH (FX X cv fn xs) m h H → RD X.K m h.length H x v → c x h = true → tyV X.K n v H) :
    PE X (.Call (.Attribute oe m apos) (a :: es) [] pos) (PE_ (FX X cv fn xs) W (dM c f (d.E g oe) (denA d g (a :: es)))) := by
  have hs' := hs
  rw [List.any_cons, Bool.or_eq_false_iff] at hs'
  refine peImp (pe_bm pa sl ty hm (hd.E X g cv fn xs W o tk oe) (d_A hd o tk _ hs) (base_of hb) ?_ hp (star_of hs'.1) (plain_of hs'.2)) fun σ H Q q => m_rd ht q
  rw [few_of hs]
  have : decide ((a :: es).length + ([] : List Keyword).length + (if ([] : List Keyword).isEmpty = true then 0 else 1) < 30) = true := decide_eq_true (by
    have e1 : ([] : List Keyword).isEmpty = true := rfl
    rw [if_pos e1]
    simp only [List.length_nil] at *
    omega)
  rw [this]
  rfl
theorem d_mt0 {oe : Expr} {m : Str} {apos : Pos} {n id : String} {c : D → Hh → Bool} {f : D → List D → Hh → R D} (hd : Sd d) (o : XOk X g cv fn xs) (tk : L2N.Takes X W) (hp : (apos.endLine == pos.line) = true) (hb : okBase oe = true)
    (pa : PlainAttrs n) (sl : Slot n m id) (ty : typeOf (.builtin id) = pure (.type "method_descriptor")) (hm : MtR X id (rM (FX X cv fn xs) f)) (ht : ∀ m h H x v, RH (FX X cv fn xs) m h H → RD X.K m h.length H x v → c x h = true → tyV X.K n v H) :
    PE X (.Call (.Attribute oe m apos) [] [] pos) (PE_ (FX X cv fn xs) W (dM c f (d.E g oe) aN)) := by
  refine peImp (pe_bm0 pa sl ty hm (hd.E X g cv fn xs W o tk oe) (base_of hb) hp) fun σ H Q q => ?_
  obtain ⟨m, e, h, rh, re, p⟩ := q
  refine ⟨m, e, h, rh, re, p.bind fun dx h1 m1 H1 xv g1 rh1 rx p1 => ?_⟩
  split at p1
  · rename_i hc
    exact ⟨ht _ _ _ _ _ rh1 rx hc, W, σ, m1, h1, dx, [], rh1, rx, .nil, p1⟩
  · exact p1.elim
theorem few_form {es : List Expr} {env : Env} (hs : es.any isStar = false) (hl : es.length < 20) : methodCallForm (es.length + ([] : List Keyword).length) (backTo pos (starEach es env)) (backToKw pos (keywordEach [] env)) = true := by
  unfold methodCallForm
  rw [few_of hs]
  show (true && true && decide (es.length + 0 + 0 < 30)) = true
  simp only [Bool.true_and, Nat.add_zero]
  exact decide_eq_true (by omega)
theorem mcall_eq {oe : Expr} {m : Str} {apos : Pos} {es : List Expr} {env : Env} (hb : okBase oe = true) (hs : es.any isStar = false) (hl : es.length < 20) (hp : (apos.endLine == pos.line) = true) : eval (.Call (.Attribute oe m apos) es [] pos) env = (do
      let ov ← eval oe env
      standAt apos.atName
      let (f, first) ← holding [ov] (getMethod ov m (plainOf oe env))
      callWith pos f first (backTo pos (starEach es env)) (backToKw pos (keywordEach [] env))) := by
  rw [PySem.arm_eval_Call, base_of hb]
  refine congrArg _ (funext fun ov => congrArg _ (funext fun _ => ?_))
  exact mcall_line (few_form hs hl) hp
theorem mt_of {nw : Nat} : ∀ {l : List (Nat × Nat × Nat × List D)} {c : Nat} {f : FD}, (g.mt nw l).lookup c = some f → ∃ e ∈ l, e.1 = c ∧ nw + 1 ≤ e.2.2.1 ∧ e.2.2.1 - (nw + 1) ≤ e.2.2.2.length ∧ f = mtF (g.T e.2.1) (e.2.2.2.drop (e.2.2.2.length - (e.2.2.1 - (nw + 1))))
  | [], c, f, h => by cases h
  | (c', id, n, dv) :: r, c, f, h => by
    unfold G.mt at h
    split at h
    · rename_i hc
      rw [List.lookup_cons] at h
      cases hb : c == c' with
      | true =>
        rw [hb] at h
        cases h
        have : c = c' := by simpa using hb
        subst this
        exact ⟨_, .head _, rfl, hc.1, hc.2, rfl⟩
      | false =>
        rw [hb] at h
        obtain ⟨e, h1, h2⟩ := mt_of h
        exact ⟨e, .tail _ h1, h2⟩
    · obtain ⟨e, h1, h2⟩ := mt_of h
      exact ⟨e, .tail _ h1, h2⟩
theorem d_MU {oe : Expr} {m : Str} {apos : Pos} {es : List Expr} {l : List (Nat × Nat × Nat × List D)} (hd : Sd d) (o : XOk X g cv fn xs) (tk : L2N.Takes X W) (hs : es.any isStar = false) (hl : es.length < 20) (hp : (apos.endLine == pos.line) = true) (hb : okBase oe = true) (hc : g.calm = true) (hm : g.ms.lookup m = some l) :
    PE X (.Call (.Attribute oe m apos) es [] pos) (PE_ (FX X cv fn xs) W (dMe (g.mt es.length l) (d.E g oe) (denA d g es))) := by
  obtain ⟨cm, hxs, k, hr, _, fns⟩ := o.calm hc
  subst hxs
  refine s_meth (hd.E X g cv fn none W o tk oe) (d_A hd o tk _ hs) tk (fun e h ds h' q => denA_len _ _ _ _ _ q) (fun z => by rw [z]; rfl) (fun c f hf => ?_) (fun e r z => ?_) (mcall_eq hb hs hl hp)
  · obtain ⟨en, he, rfl, l1, l2, rfl⟩ := mt_of hf
    obtain ⟨C, gm, fd, ps, dvs, h1, h2, h3, h4, h5, h6⟩ := fns.mts m l hm en he
    have hlen : en.2.2.2.length = dvs.length := (h5 (fun _ => 0) 0 (fun _ => none)).length
    obtain ⟨ws, hv, hbd⟩ := h6 (en.2.2.2.length - (en.2.2.1 - (es.length + 1))) (Nat.sub_le _ _)
    rw [mN_of (by omega)] at h3
    rw [mN_of (by omega), ← h3] at h4
    have h2 := h2.meth (by omega)
    exact ⟨C, gm, k, fd, ps, g.T en.2.1, _, _, ws, h1, h2, h4, hr.mono (Nat.le_succ k), hbd, hv, fun m N H => (h5 m N H).drop _, by rw [List.length_drop, ← hlen]; omega, rfl⟩
  · subst z
    rw [List.any_cons, Bool.or_eq_false_iff] at hs
    exact ⟨star_of hs.1, plain_of hs.2⟩
theorem d_M {oe : Expr} {m : Str} {apos : Pos} {es : List Expr} (hd : Sd d) (o : XOk X g cv fn xs) (tk : L2N.Takes X W) : PE X (.Call (.Attribute oe m apos) es [] pos) (PE_ (FX X cv fn xs) W (denM d g oe m apos pos es)) := by
  have hu65 : X.A.units + 65 < cLine := o.hu
  unfold denM
  split
  · rename_i hc
    obtain ⟨hs, hl', hp, hb⟩ := hc
    split
    · rename_i q eq
      have hl := hl'
      cases es with
      | nil =>
        unfold mtTab at eq
        simp only [List.length_nil, ne_eq, not_true_eq_false, and_false, if_false, if_true, and_true] at eq
        split at eq
        · rename_i hm
          cases beqs hm
          cases eq
          exact d_mt0 hd o tk hp hb PySem.F.plainAttrs_list PySem.F.slot_list_pop PySem.F.type_list_pop m_pop fun _ _ _ _ _ => tyV_L
        · split at eq
          · rename_i hm
            cases beqs hm
            cases eq
            exact d_mt0 hd o tk hp hb PySem.F.plainAttrs_list PySem.F.slot_list_reverse PySem.F.type_list_reverse m_rev fun _ _ _ _ _ => tyV_L
          · cases eq
      | cons a es =>
        unfold mtTab at eq
        simp only [List.length_cons, ne_eq, Nat.succ_ne_zero, Nat.add_one_ne_zero, not_false_eq_true, and_true, and_false, if_false] at eq
        split at eq
        · rename_i hm
          cases beqs hm
          cases eq
          exact d_mt hd o tk hs hl hp hb PySem.F.plainAttrs_list PySem.F.slot_list_append PySem.F.type_list_append m_append fun _ _ _ _ _ => tyV_L
        · split at eq
          · rename_i hm
            cases beqs hm
            cases eq
            exact d_mt hd o tk hs hl hp hb PySem.F.plainAttrs_list PySem.F.slot_list_pop PySem.F.type_list_pop m_popAt fun _ _ _ _ _ => tyV_L
          · split at eq
            · rename_i hm
              cases beqs hm
              cases eq
              exact d_mt hd o tk hs hl hp hb PySem.F.plainAttrs_list PySem.F.slot_list_insert PySem.F.type_list_insert m_insert fun _ _ _ _ _ => tyV_L
            · split at eq
              · rename_i hm
                cases beqs hm
                cases eq
                exact d_mt hd o tk hs hl hp hb PySem.F.plainAttrs_list PySem.F.slot_list_extend PySem.F.type_list_extend m_extend fun _ _ _ _ _ => tyV_L
              · split at eq
                · rename_i hm
                  cases beqs hm
                  cases eq
                  exact d_mt hd o tk hs hl hp hb PySem.F.plainAttrs_list PySem.F.slot_list_index PySem.F.type_list_index (m_index hu65) fun _ _ _ _ _ => tyV_L
                · split at eq
                  · rename_i hm
                    cases beqs hm
                    cases eq
                    exact d_mt hd o tk hs hl hp hb PySem.F.plainAttrs_list PySem.F.slot_list_remove PySem.F.type_list_remove m_remove fun _ _ _ _ _ => tyV_L
                  · split at eq
                    · rename_i hm
                      cases beqs hm
                      cases eq
                      exact d_mt hd o tk hs hl hp hb PySem.F.plainAttrs_str PySem.F.slot_str_split PySem.F.type_str_split m_split fun _ _ _ _ _ _ r c => tyV_S (T := FX X cv fn xs) r c
                    · split at eq
                      · rename_i hm
                        cases beqs hm
                        cases eq
                        exact d_mt hd o tk hs hl hp hb PySem.F.plainAttrs_str PySem.F.slot_str_join PySem.F.type_str_join m_join fun _ _ _ _ _ _ r c => tyV_S (T := FX X cv fn xs) r c
                      · split at eq
                        · rename_i hm
                          cases beqs hm
                          cases eq
                          exact d_mt hd o tk hs hl hp hb PySem.F.plainAttrs_str PySem.F.slot_str_rfind PySem.F.type_str_rfind m_rfind fun _ _ _ _ _ _ r c => tyV_S (T := FX X cv fn xs) r c
                        · split at eq
                          · rename_i hm
                            cases beqs hm
                            cases eq
                            exact d_mt hd o tk hs hl hp hb PySem.F.plainAttrs_str PySem.F.slot_str_partition PySem.F.type_str_partition m_part fun _ _ _ _ _ _ r c => tyV_S (T := FX X cv fn xs) r c
                          · cases eq
    · split
      · rename_i l hl
        split
        · rename_i hc
          exact d_MU hd o tk hs hl' hp hb hc hl
        · exact e_K
      · exact e_K
  · exact e_K
theorem fid_of {f : Str} {i : Nat} (h : g.fid f = some i) : f = fnm i ∧ i < fnames.length := by
  unfold G.fid at h
  split at h
  · split at h
    · rename_i hc
      cases h
      exact ⟨(beqs hc.1).symm, hc.2⟩
    · cases h
  · cases h
theorem d_F {oe : Expr} {f : Str} (hd : Sd d) (o : XOk X g cv fn xs) (tk : L2N.Takes X W) : PE X (.Attribute oe f pos) (PE_ (FX X cv fn xs) W (denF d g oe f)) := by
  unfold denF
  split
  · rename_i i ei
    obtain ⟨rfl, hi⟩ := fid_of ei
    split
    · rename_i y ey
      unfold dXf
      split
      · rename_i hx
        split
        · rename_i dv ed
          obtain ⟨n, pn, j, ea, hm⟩ := exc_of ey
          subst ea
          obtain ⟨hn, hloc, hnm, ad, dd, hxs, _, hfld⟩ := o.suite _ _ _ hm
          obtain ⟨C, hC, hXf, hno⟩ := o.xf _ _ hx
          have hvis : PE X (.Name n pn) (fun σ H Q => σ[j]? = some (some (.ref ad)) ∧ Q (.ref ad) H) :=
            peImp (pe_var hn (.inl hloc) (okNm_of hnm).1 (okNm_of hnm).2.1) fun σ H Q q => ⟨_, q.1, q.2⟩
          refine peImp (hfld i C _ _ pos hC hXf hno hvis rfl) fun σ H Q q => ?_
          obtain ⟨m, e, h, rh, re, p⟩ := q
          obtain ⟨e1, e2⟩ := re.exc j ad y dd hxs
          have hne : y.fs ≠ [] := fun z => by rw [z] at ed; cases ed
          obtain ⟨dx, vs, e3, e4, pf⟩ := e2.2 hne
          obtain ⟨v, e5, r5⟩ := look_rdX hi pf ed
          exact ⟨e1, rfl, hC, dx, vs, v, e3, e4, e5, p.here rh r5⟩
        · exact e_K
      · exact e_K
    · split
      · rename_i hb
        exact s_fld (hd.E X g cv fn xs W o tk oe) (base_of hb)
      · exact e_K
  · split
    · rename_i c id n dv hl
      split
      · rename_i hc
        obtain ⟨hc, hn, hb⟩ := hc
        obtain ⟨cm, hxs, k, hr, _, fns⟩ := o.calm hc
        subst hxs
        obtain ⟨C, gm, fd, ps, dvs, h1, h2, h3, h4, h5, h6⟩ := fns.mts f _ hl _ (List.mem_singleton.mpr rfl)
        have hn : n = 0 := hn
        subst hn
        obtain ⟨cl, p, hp⟩ := h2.prop rfl
        have hlen : dv.length = dvs.length := (h5 (fun _ => 0) 0 (fun _ => none)).length
        obtain ⟨ws, hv, hbd⟩ := h6 dv.length (Nat.le_refl _)
        have hw : ws = [] := by
          have e : dvs.drop dv.length = [] := by rw [hlen]; exact List.drop_length
          have := hv.length
          rw [e] at this
          exact List.length_eq_zero_iff.mp this.symm
        subst hw
        exact s_prop (hd.E X g cv fn none W o tk oe) h1 cl hp h4 hr hbd (base_of hb)
      · exact e_K
    · exact e_K
theorem set_of {e : Expr} {env : Env} (h : isSet e = false) : ∀ x, foldedSetIterable e env x = pure x := by
  intro x
  cases e <;> first | rfl | cases h
theorem d_I {tg : Expr} (hd : Sd d) (o : XOk X g cv fn xs) (tk : L2N.Takes X W) : ∀ (e : Expr), PI X tg e (PI_ (FX X cv fn xs) W (denI d g tg e)) := by
  intro e
  unfold denI
  split
  · rename_i x p args pos
    split
    · rename_i hg
      obtain ⟨gl, ok, nm, _⟩ := glob_of o hg
      split
      · rename_i a
        split
        · exact i_K
        · rename_i hs
          have hs : isStar a = false := by simpa using hs
          have h1 : starEach [a] X.env = [(false, eval a X.env)] := by rw [star_of hs]; rfl
          split
          · rename_i z; cases beqs z; exact i_range1 gl ok (hd.E X g cv fn xs W o tk a) h1
          · split
            · rename_i z; cases beqs z; exact i_rev gl ok (hd.E X g cv fn xs W o tk a) h1
            · split
              · rename_i z
                obtain ⟨z, zt⟩ := z
                cases beqs z
                cases tg <;> first | exact i_enum gl ok (hd.E X g cv fn xs W o tk a) h1 | cases zt
              · split
                · exact i_seq (hd.E X g cv fn xs W o tk _)
                · exact i_K
      · rename_i a b
        split
        · exact i_K
        · rename_i hs
          have hs : isStar a = false ∧ isStar b = false := by
            refine ⟨?_, ?_⟩
            · cases q : isStar a with
              | false => rfl
              | true => exact absurd (.inl q) hs
            · cases q : isStar b with
              | false => rfl
              | true => exact absurd (.inr q) hs
          have h2 : starEach [b] X.env = [(false, eval b X.env)] := by rw [star_of hs.2]; rfl
          have h1 : starEach [a, b] X.env = [(false, eval a X.env), (false, eval b X.env)] := by rw [star_of hs.1, h2]
          split
          · rename_i z; cases beqs z; exact i_range2 gl ok (hd.E X g cv fn xs W o tk a) (hd.E X g cv fn xs W o tk b) h1 h2
          · split
            · rename_i z
              obtain ⟨z, zt⟩ := z
              cases beqs z
              cases tg <;> first | exact i_zip gl ok (hd.E X g cv fn xs W o tk a) (hd.E X g cv fn xs W o tk b) h1 h2 (plain_of (by simp [hs.2])) | cases zt
            · exact i_K
      · exact i_K
    · exact i_seq (hd.E X g cv fn xs W o tk _)
  · split
    · exact i_K
    · exact i_seq (hd.E X g cv fn xs W o tk e)
def StOk (X : Cx) (g : G) (S : Nat → Prop) : Prop := ∀ x i, g.sto x = some i → S i → X.N[i]? = some x ∧ Loc X.env.scope x ∧ (X.fn x = true ∨ X.env.scope.names.lookup x = some .local)
theorem sto_of {x : Str} {i : Nat} (o : XOk X g cv fn xs) (h : g.sto x = some i) : X.N[i]? = some x ∧ Loc X.env.scope x ∧ Nx (FX X cv fn xs) i := by
  unfold G.sto at h
  split at h
  · rename_i hk
    split at h
    · rename_i j ej
      have hN := ix_of o ej
      have hl : Loc X.env.scope x := by
        unfold L2.Loc
        rw [o.sc]
        rw [Bool.or_eq_true] at hk
        rcases hk with hk | hk
        · exact .inl (by simpa using hk)
        · exact .inr (by simpa using hk)
      split at h
      · rename_i y n k hm
        split at h
        · cases h
        · rename_i hne
          cases h
          obtain ⟨_, _, _, a, dd, hx, _⟩ := o.suite _ _ _ hm
          exact ⟨hN, hl, fun j' a' z => by
            have z' : xs = some (j', a') := z
            rw [hx] at z'
            cases z'
            exact fun q => hne q.symm⟩
      · rename_i hm
        cases h
        refine ⟨hN, hl, fun j' a' z => ?_⟩
        have z' : xs = some (j', a') := z
        exfalso
        cases hmd : g.md with
        | body => have := (o.calm (by unfold G.calm; rw [hmd])).2.1; rw [z'] at this; cases this
        | blk => have := (o.calm (by unfold G.calm; rw [hmd])).2.1; rw [z'] at this; cases this
        | hot => have := o.hotN hmd; rw [z'] at this; cases this
        | suite y n => cases n with
          | none => have := o.suiteN y hmd; rw [z'] at this; cases this
          | some q => obtain ⟨q1, q2⟩ := q; exact hm _ _ _ hmd
    · cases h
  · cases h
theorem stOk_of (o : XOk X g cv fn xs) (hm : g.md ≠ .blk) : StOk X g (fun _ => True) := fun x i h _ => ⟨(sto_of o h).1, (sto_of o h).2.1, .inl (o.fnT hm x)⟩
theorem stos_of {S : Nat → Prop} (st : StOk X g S) : ∀ {es : List Expr} {is : List Nat}, g.stos es = some is → (∀ i ∈ is, S i) → Paired (nmOk X) es is
  | [], is, h, _ => by cases h; exact .nil
  | e :: es, is, h, hS => by
    cases e with
    | Name x p =>
      change (match g.sto x, g.stos es with | some i, some is => some (i :: is) | _, _ => none) = some is at h
      split at h
      · rename_i i is' h1 h2
        cases h
        exact .cons (st x i h1 (hS i (by simp))) (stos_of st h2 fun j hj => hS j (by simp [hj]))
      · cases h
    | _ => cases h
theorem tgs_of {S : Nat → Prop} (o : XOk X g cv fn xs) (st : StOk X g S) (hc : X.calm = true) (hx : xs = none) : ∀ {es : List Expr} {p : List Nat × List Tg}, g.tgs es = some p → (∀ i ∈ p.1, S i) → TgOk X (FX X cv fn xs) es p.1 p.2
  | [], p, h, _ => by cases h; exact .nil
  | e :: es, p, h, hS => by
    cases e with
    | Name x ps =>
      change (match g.sto x, g.tgs es with | some i, some p => some ([i] ++ p.1, gN i :: p.2) | _, _ => none) = some p at h
      split at h
      · rename_i i p' h1 h2
        cases h
        obtain ⟨q1, q2, q3⟩ := st x i h1 (hS i (by simp))
        exact .cons rfl (g_n (sto_of o h1).2.2 o.nd q1 q2 q3) (tgs_of o st hc hx h2 fun j hj => hS j (List.mem_append_right _ hj))
      · cases h
    | Tuple ts kk ps =>
      change (match g.stos ts, g.tgs es with | some is, some p => some (is ++ p.1, gT is :: p.2) | _, _ => none) = some p at h
      split at h
      · rename_i is p' h1 h2
        cases h
        exact .cons rfl (g_t hx hc o.nd (stos_of st h1 fun j hj => hS j (List.mem_append_left _ hj))) (tgs_of o st hc hx h2 fun j hj => hS j (List.mem_append_right _ hj))
      · cases h
    | _ => cases h
theorem d_tg {S : Nat → Prop} {tg : Expr} {is : List Nat} {t : Tg} (o : XOk X g cv fn xs) (st : StOk X g S) (h : g.tg tg = some (is, t)) (hS : ∀ i ∈ is, S i) : PG X tg (PG_ (FX X cv fn xs) is t) := by
  unfold G.tg at h
  split at h
  · rename_i x p
    obtain ⟨i, e, q⟩ := Option.map_eq_some_iff.mp h
    cases q
    obtain ⟨h1, h2, h3⟩ := st x i e (hS i (by simp))
    exact g_n (sto_of o e).2.2 o.nd h1 h2 h3
  · split at h
    · rename_i hc
      obtain ⟨hc1, hx, _⟩ := o.calm hc
      split at h
      · obtain ⟨js, e, q⟩ := Option.map_eq_some_iff.mp h
        cases q
        exact g_t hx hc1 o.nd (stos_of st e hS)
      · obtain ⟨p, e, q⟩ := Option.map_eq_some_iff.mp h
        cases q
        exact g_tm hc1 (tgs_of o st hc1 hx e hS)
    · cases h
  · cases h
theorem XOk.blk {s : Shared} {H : Hp} {scope : Scope} {C : Addr} {cl : List (Str × Addr)} {fp : List Addr} (o : XOk X g cv fn xs) (hc : g.calm = true) :
    XOk (X.blk s H scope (compEnvC scope cl C X.env) fp) { g with sc := relS scope g.sc, md := .blk } cv fn xs := by
  refine ⟨o.N, o.nd, ?_, o.hu, fun z => absurd rfl z, fun _ => o.calm hc, o.gl, o.sub, o.isi, fun z => (by cases z), o.na, o.xf, fun _ _ _ z => (by cases z), fun _ z => (by cases z), o.dig, fun z => (by cases z), fun z => (by cases z), fun z => (by cases z)⟩
  show relS scope X.env.scope = relS scope g.sc
  rw [o.sc]
theorem d_Ts (hd : Sd d) (o : XOk X g cv fn xs) (tk : L2N.Takes X W) : ∀ (ifs : List Expr), PTs X ifs (PT_ (FX X cv fn xs) W (denTs d g ifs))
  | [] => ⟨fun pins s σ H Q I q => by
    obtain ⟨m, e, h, rh, re, p⟩ := q
    exact pts_nil.run pins s σ H Q I (p.here rh rfl)⟩
  | [c] => pts_one (hd.T X g cv fn xs W o tk c)
  | _ :: _ :: _ => ⟨fun pins s σ H Q I q => by
    obtain ⟨m, e, h, rh, re, p⟩ := q
    exact p.elim⟩
theorem own_mem {sc : Scope} {i : Nat} (h : i ∈ (ownOf g sc).map (·.2)) : ∃ y ∈ sc.names, g.ix y.1 = some i ∧ (y.2 = .local ∨ y.2 = .cell) := by
  obtain ⟨q, h1, h2⟩ := List.mem_map.mp h
  obtain ⟨y, h3, h4⟩ := List.mem_filterMap.mp h1
  split at h4
  · rename_i hk
    obtain ⟨j, e1, e2⟩ := Option.map_eq_some_iff.mp h4
    cases e2
    subst h2
    exact ⟨y, h3, e1, .inl hk⟩
  · rename_i hk
    obtain ⟨j, e1, e2⟩ := Option.map_eq_some_iff.mp h4
    cases e2
    subst h2
    exact ⟨y, h3, e1, .inr hk⟩
  · cases h4
theorem blk_st {s : Shared} {H : Hp} {scope : Scope} {C : Addr} {cl : List (Str × Addr)} {fp : List Addr} (o : XOk X g cv fn xs) (hc : g.calm = true) (ok : BlkOk X.N X.env.scope scope (ownOf g scope)) :
    StOk (X.blk s H scope (compEnvC scope cl C X.env) fp) { g with sc := relS scope g.sc, md := .blk } (fun i => i ∈ (ownOf g scope).map (·.2)) := fun x i h hi => by
  have o' := XOk.blk (s := s) (H := H) (scope := scope) (C := C) (cl := cl) (fp := fp) o hc
  obtain ⟨h1, h2, _⟩ := sto_of o' h
  refine ⟨h1, h2, ?_⟩
  obtain ⟨y, hy, e1, hk⟩ := own_mem hi
  have e2 := ix_of o e1
  have e3 : some x = some y.1 := h1.symm.trans e2
  cases e3
  have u := ok.uniq y hy
  rcases hk with hk | hk
  · right
    show (relS scope X.env.scope).names.lookup y.1 = some .local
    rw [hk] at u
    exact lookup_relS_keep (by decide) u
  · left
    show (scope.names.lookup y.1 == some .cell) = true
    rw [u, hk]
    rfl
end
end Mn
namespace Mn
open PySem L2
section
variable {X : Cx} {g : G} {cv : Nat → Value} {fn : Nat → Str} {xs : Xs} {W : WX} {pos : Pos} {d : DD}
theorem allMem {own : List Nat} {is : List Nat} (h : is.all (fun i => decide (i ∈ own)) = true) : ∀ i ∈ is, i ∈ own := fun i hi => of_decide_eq_true (List.all_eq_true.mp h i hi)
structure Lc2P (X : Cx) (g : G) (cv : Nat → Value) (fn : Nat → Str) (xs : Xs) (d : DD) (sc : Scope) (tg tg1 it1 el : Expr) (ifs ifs1 : List Expr) (is is1 : List Nat) (t t1 : Tg) : Prop where
  ok : BlkOk X.N X.env.scope sc (ownOf g sc)
  hg : ∀ (s : Shared) (H : Hp) (C : Addr) (cl : List (Str × Addr)) (fp : List Addr), PG (X.blk s H sc (compEnvC sc cl C X.env) fp) tg (PG_ (FX X cv fn xs) is t)
  hg1 : ∀ (s : Shared) (H : Hp) (C : Addr) (cl : List (Str × Addr)) (fp : List Addr), PG (X.blk s H sc (compEnvC sc cl C X.env) fp) tg1 (PG_ (FX X cv fn xs) is1 t1)
  ht : ∀ (s : Shared) (H : Hp) (C : Addr) (cl : List (Str × Addr)) (fp : List Addr), PTs (X.blk s H sc (compEnvC sc cl C X.env) fp) ifs (PT_ (FX X cv fn xs) noW (denTs d { g with sc := relS sc g.sc, md := .blk } ifs))
  ht1 : ∀ (s : Shared) (H : Hp) (C : Addr) (cl : List (Str × Addr)) (fp : List Addr), PTs (X.blk s H sc (compEnvC sc cl C X.env) fp) ifs1 (PT_ (FX X cv fn xs) noW (denTs d { g with sc := relS sc g.sc, md := .blk } ifs1))
  hi1 : ∀ (s : Shared) (H : Hp) (C : Addr) (cl : List (Str × Addr)) (fp : List Addr), PI (X.blk s H sc (compEnvC sc cl C X.env) fp) tg1 it1 (PI_ (FX X cv fn xs) noW (denI d { g with sc := relS sc g.sc, md := .blk } tg1 it1))
  he : ∀ (s : Shared) (H : Hp) (C : Addr) (cl : List (Str × Addr)) (fp : List Addr), PE (X.blk s H sc (compEnvC sc cl C X.env) fp) el (PE_ (FX X cv fn xs) noW (d.E { g with sc := relS sc g.sc, md := .blk } el))
theorem lc2_parts {sc : Scope} {tg tg1 it1 el : Expr} {ifs ifs1 : List Expr} {is is1 : List Nat} {t t1 : Tg} (hd : Sd d) (o : XOk X g cv fn xs) (h1 : g.calm = true) (h2 : blkC g.N g.sc sc (ownOf g sc) = true)
    (h3 : is.all (fun i => decide (i ∈ (ownOf g sc).map (·.2))) = true) (h3' : is1.all (fun i => decide (i ∈ (ownOf g sc).map (·.2))) = true)
    (et : ({ g with sc := relS sc g.sc, md := .blk } : G).tg tg = some (is, t)) (et1 : ({ g with sc := relS sc g.sc, md := .blk } : G).tg tg1 = some (is1, t1)) : Lc2P X g cv fn xs d sc tg tg1 it1 el ifs ifs1 is is1 t t1 := by
  have ok : BlkOk X.N X.env.scope sc (ownOf g sc) := blkOk_by (by rw [o.N, o.sc]; exact h2)
  exact ⟨ok, fun s H C cl fp => d_tg (X := X.blk s H sc (compEnvC sc cl C X.env) fp) (XOk.blk o h1) (blk_st o h1 ok) et (allMem h3),
    fun s H C cl fp => d_tg (X := X.blk s H sc (compEnvC sc cl C X.env) fp) (XOk.blk o h1) (blk_st o h1 ok) et1 (allMem h3'),
    fun s H C cl fp => d_Ts (X := X.blk s H sc (compEnvC sc cl C X.env) fp) hd (XOk.blk o h1) takesN ifs,
    fun s H C cl fp => d_Ts (X := X.blk s H sc (compEnvC sc cl C X.env) fp) hd (XOk.blk o h1) takesN ifs1,
    fun s H C cl fp => d_I (X := X.blk s H sc (compEnvC sc cl C X.env) fp) hd (XOk.blk o h1) takesN it1,
    fun s H C cl fp => hd.E (X.blk s H sc (compEnvC sc cl C X.env) fp) _ cv fn xs _ (XOk.blk o h1) takesN el⟩
theorem d_O (hd : Sd d) (o : XOk X g cv fn xs) (tk : L2N.Takes X W) : ∀ (e : Option Expr), L2.PO X e (OO_ (FX X cv fn xs) W (denO d g e))
  | none => s_oN
  | some e => s_oS (hd.E X g cv fn xs W o tk e)
theorem d_Lc {el : Expr} {gs : List Comprehension} {sc : Scope} (hd : Sd d) (o : XOk X g cv fn xs) (tk : L2N.Takes X W) : PE X (.ListComp el gs sc pos) (PE_ (FX X cv fn xs) W (denLc d g el gs sc)) := by
  unfold denLc
  split
  · rename_i tg it ifs
    dsimp only
    split
    · rename_i is t et
      split
      · rename_i hc
        obtain ⟨h1, h2, h3, h4⟩ := hc
        have ok : BlkOk X.N X.env.scope sc (ownOf g sc) := blkOk_by (by rw [o.N, o.sc]; exact h2)
        obtain ⟨hc1, hx, _⟩ := o.calm h1
        have hi : PI X tg it (PI_ (FX X cv fn xs) W (denI d g tg it)) := d_I hd o tk it
        have hg : ∀ (s : Shared) (H : Hp) (C : Addr) (cl : List (Str × Addr)) (fp : List Addr), PG (X.blk s H sc (compEnvC sc cl C X.env) fp) tg (PG_ (FX X cv fn xs) is t) := fun s H C cl fp => d_tg (X := X.blk s H sc (compEnvC sc cl C X.env) fp) (XOk.blk o h1) (blk_st o h1 ok) et (allMem h3)
        have ht : ∀ (s : Shared) (H : Hp) (C : Addr) (cl : List (Str × Addr)) (fp : List Addr), PTs (X.blk s H sc (compEnvC sc cl C X.env) fp) ifs (PT_ (FX X cv fn xs) (fun _ _ _ _ => False) (denTs d { g with sc := relS sc g.sc, md := .blk } ifs)) := fun s H C cl fp => d_Ts (X := X.blk s H sc (compEnvC sc cl C X.env) fp) hd (XOk.blk o h1) takesN ifs
        have he : ∀ (s : Shared) (H : Hp) (C : Addr) (cl : List (Str × Addr)) (fp : List Addr), PE (X.blk s H sc (compEnvC sc cl C X.env) fp) el (PE_ (FX X cv fn xs) (fun _ _ _ _ => False) (d.E { g with sc := relS sc g.sc, md := .blk } el)) := fun s H C cl fp => hd.E (X.blk s H sc (compEnvC sc cl C X.env) fp) _ cv fn xs _ (XOk.blk o h1) takesN el
        exact peImp (pe_lc hc1 o.nd hi ok hg ht he (set_of h4)) fun σ H Q q => s_lc hx hc1 o.nd hi ok hg ht he (allMem h3) (set_of h4) q
      · exact e_K
    · exact e_K
  · rename_i tg it ifs tg1 it1 ifs1
    dsimp only
    split
    · rename_i is t is1 t1 et et1
      split
      · rename_i hc
        obtain ⟨h1, h2, h3, h3', h4, h4'⟩ := hc
        obtain ⟨ok, hg, hg1, ht, ht1, hi1, he⟩ := lc2_parts (is := is) (t := t) (is1 := is1) (t1 := t1) (el := el) (ifs := ifs) (ifs1 := ifs1) (it1 := it1) hd o h1 h2 h3 h3' et et1
        obtain ⟨hc1, hx, _⟩ := o.calm h1
        have hi : PI X tg it (PI_ (FX X cv fn xs) W (denI d g tg it)) := d_I hd o tk it
        exact peImp (pe_lc2 hc1 o.nd hi ok (allMem h3') hg ht hi1 hg1 ht1 he (set_of h4) (fun env x => set_of h4' x)) fun σ H Q q => s_lc2 (it := it) (it1 := it1) (el := el) (ifs := ifs) (ifs1 := ifs1) (scope := sc) hx (allMem h3) q
      · exact e_K
    · exact e_K
  · exact e_K
theorem s_notT {a : Expr} {fa : ED} (ha : PE X a (PE_ (FX X cv fn xs) W fa)) : PE X (.UnaryOp .Not a pos) (PE_ (FX X cv fn xs) W (dNotT fa)) :=
  peImp (pe_notT ha) fun σ H Q q => by
    obtain ⟨m, e, h, rh, re, p⟩ := q
    refine ⟨m, e, h, rh, re, p.bind fun x h1 m1 H1 xv g1 rh1 rx p1 => ?_⟩
    split at p1
    · rename_i k ek
      exact ⟨k, truth_rd rh1 rx ek, p1.here rh1 (.bl _)⟩
    · exact p1.elim
theorem s_andT {a b : Expr} {rest : List Expr} {fa fb : ED} (ha : PE X a (PE_ (FX X cv fn xs) W fa)) (hb : PE X (.BoolOp .And (b :: rest) pos) (PE_ (FX X cv fn xs) W fb)) : PE X (.BoolOp .And (a :: b :: rest) pos) (PE_ (FX X cv fn xs) W (dAndT fa fb)) :=
  peImp (pe_andT ha hb) fun σ H Q q => by
    obtain ⟨m, e, h, rh, re, p⟩ := q
    refine ⟨m, e, h, rh, re, p.bind fun x h1 m1 H1 xv g1 rh1 rx p1 => ?_⟩
    split at p1
    · rename_i k ek
      refine ⟨k, truth_rd rh1 rx ek, ?_⟩
      cases k with
      | true => rw [if_pos rfl] at p1 ⊢; exact ⟨m1, e, h1, rh1, g1.re re, p1⟩
      | false => rw [if_neg Bool.false_ne_true] at p1 ⊢; exact p1.here rh1 rx
    · exact p1.elim
theorem s_orT {a b : Expr} {rest : List Expr} {fa fb : ED} (ha : PE X a (PE_ (FX X cv fn xs) W fa)) (hb : PE X (.BoolOp .Or (b :: rest) pos) (PE_ (FX X cv fn xs) W fb)) : PE X (.BoolOp .Or (a :: b :: rest) pos) (PE_ (FX X cv fn xs) W (dOrT fa fb)) :=
  peImp (pe_orT ha hb) fun σ H Q q => by
    obtain ⟨m, e, h, rh, re, p⟩ := q
    refine ⟨m, e, h, rh, re, p.bind fun x h1 m1 H1 xv g1 rh1 rx p1 => ?_⟩
    split at p1
    · rename_i k ek
      refine ⟨k, truth_rd rh1 rx ek, ?_⟩
      cases k with
      | true => rw [if_pos rfl] at p1 ⊢; exact p1.here rh1 rx
      | false => rw [if_neg Bool.false_ne_true] at p1 ⊢; exact ⟨m1, e, h1, rh1, g1.re re, p1⟩
    · exact p1.elim
theorem d_BoE (hd : Sd d) (o : XOk X g cv fn xs) (tk : L2N.Takes X W) (op : BoolOp) : ∀ (es : List Expr), PE X (.BoolOp op es pos) (PE_ (FX X cv fn xs) W (denBoE d g op es))
  | [] => e_K
  | [a] => pe_one (hd.E X g cv fn xs W o tk a)
  | a :: b :: r => by
    cases op with
    | And => exact s_andT (hd.E X g cv fn xs W o tk a) (d_BoE hd o tk .And (b :: r))
    | Or => exact s_orT (hd.E X g cv fn xs W o tk a) (d_BoE hd o tk .Or (b :: r))
theorem w_K {e : Expr} : PW X e (PT_ (FX X cv fn xs) W tK) := ⟨fun _ _ _ _ _ _ _ ⟨_, _, _, _, _, p⟩ => p.elim⟩
theorem d_BoT (hd : Sd d) (o : XOk X g cv fn xs) (tk : L2N.Takes X W) (op : BoolOp) : ∀ (es : List Expr), PW X (.BoolOp op es pos) (PT_ (FX X cv fn xs) W (denBoT d g op es))
  | [] => w_K
  | [a] => by
    cases op with
    | And => exact pw_and1 (hd.T X g cv fn xs W o tk a)
    | Or => exact pw_or1 (hd.T X g cv fn xs W o tk a)
  | a :: b :: r => by
    cases op with
    | And => exact sw_and (hd.T X g cv fn xs W o tk a) (d_BoT hd o tk .And (b :: r))
    | Or => exact sw_or (hd.T X g cv fn xs W o tk a) (d_BoT hd o tk .Or (b :: r))
theorem bfalse {b : Bool} (h : ¬ b = true) : b = false := by cases b <;> simp_all
theorem d_Ix {a b : Expr} (hd : Sd d) (o : XOk X g cv fn xs) (tk : L2N.Takes X W) (hs : isSlice b = false) : PE X (.Subscript a b pos) (PE_ (FX X cv fn xs) W (denIx d g a b)) := by
  unfold denIx
  split
  · split
    · rename_i kvs i e1 e2
      split
      · rename_i hc
        rw [Bool.and_eq_true, Bool.and_eq_true] at hc
        obtain ⟨n1, n2, n3⟩ := okNm_of hc.1.2
        exact s_dsp o.hu e1 hc.1.1 pe_int (ixp_of rfl) (ix_of o e2) (own_of o hc.2) n1 n2
      · exact e_K
    · exact e_K
  · exact s_ix (hd.E X g cv fn xs W o tk _) (hd.E X g cv fn xs W o tk _) (ixp_of hs)
theorem d_E (hd : Sd d) (o : XOk X g cv fn xs) (tk : L2N.Takes X W) : ∀ (e : Expr), PE X e (PE_ (FX X cv fn xs) W (stepE d g e)) := by
  intro e
  unfold stepE
  split
  · rename_i x p
    split
    · rename_i hn
      obtain ⟨n1, n2, n3⟩ := okNm_of hn
      split
      · rename_i hv
        split
        · exact e_K
        · split
          · rename_i i ei
            exact s_v (ix_of o ei) (own_of o hv) n1 n2
          · exact e_K
      · split
        · rename_i v ev
          obtain ⟨gl, ⟨u, w, h1, h2, h3⟩, _, _⟩ := glob_of o ev
          exact s_c (pe_glob gl h1 h2 n1) h3
        · exact e_K
    · exact e_K
  · exact s_c pe_non fun _ _ _ => .non
  · exact s_c pe_bl fun _ _ _ => .bl _
  · exact s_c pe_int fun _ _ _ => .int _
  · exact s_c pe_str fun _ _ _ => .str _
  · exact s_bin (hd.E X g cv fn xs W o tk _) (hd.E X g cv fn xs W o tk _)
  · exact s_notT (hd.E X g cv fn xs W o tk _)
  · exact s_un (hd.E X g cv fn xs W o tk _)
  · exact d_BoE hd o tk _ _
  · split
    · exact e_K
    · rename_i hb
      exact s_cmp o.hu (hd.E X g cv fn xs W o tk _) (hd.E X g cv fn xs W o tk _) (bfalse hb)
  · split
    · exact e_K
    · rename_i hb
      exact s_chain o.hu (hd.E X g cv fn xs W o tk _) (hd.E X g cv fn xs W o tk _) (hd.E X g cv fn xs W o tk _) (bfalse hb)
  · exact s_if (hd.T X g cv fn xs W o tk _) (hd.E X g cv fn xs W o tk _) (hd.E X g cv fn xs W o tk _)
  · exact d_C hd o tk
  · exact d_K hd o tk
  · exact d_M hd o tk
  · exact d_F hd o tk
  · exact s_sl (hd.E X g cv fn xs W o tk _) (d_O hd o tk _) (d_O hd o tk _)
  · split
    · exact e_K
    · rename_i hs
      exact d_Ix hd o tk (bfalse hs)
  · split
    · exact e_K
    · rename_i hs
      exact s_tup (d_A hd o tk _ (bfalse hs))
  · split
    · exact e_K
    · rename_i hs
      exact s_lst (d_A hd o tk _ (bfalse hs))
  · exact d_Lc hd o tk
  · exact e_K
theorem d_T (hd : Sd d) (o : XOk X g cv fn xs) (tk : L2N.Takes X W) : ∀ (e : Expr), PT X e (PT_ (FX X cv fn xs) W (stepT d g e)) := by
  intro e
  unfold stepT
  split
  · exact st_not (hd.T X g cv fn xs W o tk _)
  · exact (d_BoT hd o tk _ _).pt
  · split
    · exact t_K
    · rename_i hb
      exact st_cmp o.hu (hd.E X g cv fn xs W o tk _) (hd.E X g cv fn xs W o tk _) (bfalse hb)
  · split
    · exact t_K
    · rename_i hb
      exact st_chain o.hu (hd.E X g cv fn xs W o tk _) (hd.E X g cv fn xs W o tk _) (hd.E X g cv fn xs W o tk _) (bfalse hb)
  · split
    · rename_i hp
      refine st_true (hd.E X g cv fn xs W o tk e) ?_
      intro whole
      cases e <;> first | rfl | cases hp
    · exact t_K
theorem d_Ss (hd : Sd d) (o : XOk X g cv fn xs) (tk : L2N.Takes X W) (hp : PassesOwn (model X.prog X.w) X.A X.env X.xe) (hm : g.md ≠ .blk) : ∀ (ss : List Stmt), PSs X ss (PS_ (FX X cv fn xs) W (denSs d g ss))
  | [] => s_nil
  | [s] => s_one (hd.S X g cv fn xs W o tk hp hm s)
  | s :: t :: r => s_cons (hd.S X g cv fn xs W o tk hp hm s) (d_Ss hd o tk hp hm (t :: r))
theorem d_G (hd : Sd d) (o : XOk X g cv fn xs) (tk : L2N.Takes X W) (hm : g.md ≠ .blk) : ∀ (e : Expr), PG X e (PGD_ (FX X cv fn xs) W (denG d g e)) := by
  intro e
  unfold denG
  split
  · rename_i a i p
    split
    · exact g_K
    · rename_i hs
      refine g_ix (hd.E X g cv fn xs W o tk _) (hd.E X g cv fn xs W o tk _) ?_
      intro v
      cases i <;> first | rfl | exact absurd rfl hs
  · split
    · rename_i is t et
      exact g_of (d_tg o (stOk_of o hm) et fun _ _ => trivial)
    · exact g_K
theorem sw_none {e : Expr} {t : Option Expr} {l : Nat} {env : Env} (h : isLc e = false) : swapsWith e t l env = pure false := by
  cases e <;> first | rfl | cases h
theorem o_iop (op : Operator) : PIp X op (r2 (FX X cv fn xs) (iop op)) := by
  intro pins s σ0 H x y v u Q I rx ry hh
  obtain ⟨W, σ, m, h, d1, d2, rh, ra, rb, p⟩ := hh
  unfold iop at p
  split at p
  · cases ra; cases rb; exact ip_add pins s σ0 H _ _ v u Q I rx ry ⟨_, _, rfl, rfl, p.here rh (.int _)⟩
  · cases ra; cases rb; exact ip_sub pins s σ0 H _ _ v u Q I rx ry ⟨_, _, rfl, rfl, p.here rh (.int _)⟩
  · cases ra; cases rb
    split at p
    · rename_i i j hz
      obtain ⟨t, rfl⟩ := rx
      obtain ⟨t', rfl⟩ := ry
      refine PyProof.Rows.imul_int ⟨.int _, H, I.tok _, ⟨_, rfl⟩, p.here rh (.int _)⟩ ?_
      have b : ∀ x : Int, Builtin.Int.intBits x ≤ x.natAbs.log2 + 1 := fun x => by
        unfold Builtin.Int.intBits
        split <;> omega
      have h1 := b i
      have h2 := b j
      have e : bitsLine = 134217728 := by decide
      intro z
      rw [Bool.and_eq_true] at z
      have z2 := z.2
      unfold Builtin.Int.intTooBig at z2
      have z3 := of_decide_eq_true z2
      rw [e] at z3
      have hz' : i.natAbs.log2 + j.natAbs.log2 < 100000000 := hz
      omega
    · exact p.elim
  · cases ra; cases rb
    split at p
    · rename_i hz
      exact iop_add_str pins s σ0 H _ _ v u Q I rx ry ⟨_, _, rfl, rfl, by rw [sizeLine_eq]; exact hz, p.here rh (.str _)⟩
    · exact p.elim
  · exact p.elim
theorem d_Aug {x : Str} {op : Operator} {e : Expr} {p : Pos} (hd : Sd d) (o : XOk X g cv fn xs) (tk : L2N.Takes X W) (hm : g.md ≠ .blk) : PS X (.AugAssign (.Name x p) op e pos) (PS_ (FX X cv fn xs) W (denAug g d x op e)) := by
  unfold denAug
  split
  · rename_i i ei
    obtain ⟨h1, h2, h3⟩ := stOk_of o hm x i ei trivial
    have nx := (sto_of o ei).2.2
    refine psImp (ps_aug o.nd h1 h2 (hd.E X g cv fn xs W o tk e) (o_iop (cv := cv) (fn := fn) (xs := xs) op) h3) fun D σ H q => ?_
    obtain ⟨m, ev, h, rh, re, p⟩ := q
    unfold dV at p
    dsimp only at p
    split at p
    · rename_i v hv
      obtain ⟨w, e1, r1⟩ := re.at_ i v hv
      refine ⟨w, e1, m, ev, h, rh, re, PO.toS (r := d.E g e ev h) re p fun y h2 m2 H2 yv g2 rh2 ry p2 => ?_⟩
      exact ⟨W, σ, m2, h2, v, y, rh2, g2.rd r1, ry, PO.toS (g2.re re) p2 fun z h3 m3 H3 zv g3 rh3 rz p3 => p3 m3 H3 _ Ge.refl rh3 ((g3.re (g2.re re)).set i nx rz)⟩
    · exact p.elim
  · exact s_K
end
end Mn
namespace Mn
open PySem L2
section
variable {X : Cx} {g : G} {cv : Nat → Value} {fn : Nat → Str} {xs : Xs} {W : WX} {pos : Pos} {d : DD} {f : SD}
theorem s_tryN {body suite : List Stmt} {b₀ : Stmt} {x : Str} {np pos' : Pos} {sub : Nat → Nat → Option Bool} {hd : Nat} {fs : Xc → SD} (hx : xs = none) (hs : X.stack = X.env :: X.outer) (hf : X.env.frame = some X.env.locals)
    (hc : Names X x (cv hd)) (tk : L2N.Takes X W) (hsub : ∀ c1 c2 b, sub c1 c2 = some b → PySem.W.exmOne X.K (cv c1) (cv c2) = some b)
    (hb : ∀ (W : WX) (pn : List (Addr × Obj)) (xe : Value → Shared → Prop), L2N.Takes (X.tr pn xe) W → PassesOwn (model X.prog X.w) X.A X.env xe → PSs (X.tr pn xe) body (PS_ (FX X cv fn xs) W f))
    (hsu : ∀ (a : Addr) (oe : Obj) (x : Xc) (pn : List (Addr × Obj)), PSs (X.suite a ((a, oe) :: pn)) (b₀ :: suite) (PS_ (FX X cv fn none) (fun _ _ _ _ => False) (fs x))) :
    PS X (.Try body [.ExceptHandler (some (.Name x np)) none (b₀ :: suite) pos'] [] [] pos) (PS_ (FX X cv fn xs) W (sTry sub f ⟨hd, none, fs⟩)) := by
  subst hx
  refine psImp (L2N.ps_try_many hs hf tk hb (.cons (ts := fun a cls d D σ H => ∃ y : Xc, PS_ (FX X cv fn none) (fun _ _ _ _ => False) (fs y) D σ H) hc
    (fun a oe cls d pn hz hfl => ⟨fun pins s σ H D I q => ?_⟩) .nil)) fun D σ H q => ?_
  · obtain ⟨y, q⟩ := q
    exact (hsu a oe y pn).run pins s σ H D I q
  · obtain ⟨m, e, h, rh, re, p⟩ := q
    refine ⟨m, e, h, rh, re, ?_⟩
    unfold sTry at p
    cases qf : f e h with
    | stuck => rw [qf] at p; exact p
    | go fl e1 h1 => rw [qf] at p; exact p.flow
    | exc y e1 h1 =>
      rw [qf] at p
      intro m1 H1 σ1 cls dd g1 rh1 re1 rx
      simp only at p
      cases qs : sub y.cls hd with
      | none => rw [qs] at p; exact p.elim
      | some k =>
        rw [qs] at p
        obtain ⟨ec, rx'⟩ := rx
        refine ⟨k, by rw [ec]; exact hsub _ _ _ qs, fun ek ad had => ?_, fun ek => ?_⟩
        · subst ek
          simp only at p
          rw [if_pos (show slotOk e1 none = true from rfl)] at p
          refine ⟨y, m1, e1, h1, rh1, re1, ?_⟩
          have p1 := PSo.base p g1
          cases qg : fs y e1 h1 with
          | stuck => simp only [clr, qg] at p1; exact p1.elim
          | exc x e2 h2 => simp only [clr, qg] at p1; exact p1.elim
          | go fl e2 h2 => simp only [clr, qg] at p1; exact p1.flow
        · subst ek
          exact p m1 H1 σ1 cls dd g1 rh1 re1 ⟨ec, rx'⟩
theorem XOk.tr {pn : List (Addr × Obj)} {xe : Value → Shared → Prop} (o : XOk X g cv fn xs) (hm : g.md = .body) : XOk (X.tr pn xe) g cv fn xs :=
  ⟨o.N, o.nd, o.sc, o.hu, o.fnT, o.calm, o.gl, o.sub, o.isi, o.body, o.na, o.xf, fun y n i z => (by rw [hm] at z; cases z), o.suiteN, o.dig, fun z => (by rw [hm] at z; cases z), o.hotB, fun z => (by unfold G.hotOk at z; rw [hm] at z; cases z)⟩
theorem names_of {x : Str} {p : Pos} {c : Nat} (o : XOk X g cv fn xs) (h : g.cid (.Name x p) = some c) : Names X x (cv c) := by
  unfold G.cid at h
  dsimp only at h
  split at h
  · rename_i c' hz
    cases h
    obtain ⟨gz, ⟨C, e1, e2, _⟩, nz, _⟩ := glob_of o hz
    exact ⟨gz, (okNm_of nz).1, .inl (by rw [e1]; exact e2)⟩
  · rename_i c' hz
    cases h
    obtain ⟨gz, ⟨C, e1, e2, e3⟩, nz, _⟩ := glob_of o hz
    exact ⟨gz, (okNm_of nz).1, .inr ⟨e2, by rw [e1]; exact e3, (okNm_of nz).2.2⟩⟩
  · rename_i c' fs hz
    cases h
    obtain ⟨gz, ⟨C, e1, e2, _⟩, nz, _⟩ := glob_of o hz
    exact ⟨gz, (okNm_of nz).1, .inl (by rw [e1]; exact e2)⟩
  · cases h
theorem XOk.suiteS {a : Addr} {oe : Obj} {pn : List (Addr × Obj)} {y : Xc} {n : Str} {i : Nat} {dx : Option Addr} (o : XOk X g cv fn xs) (hm : g.md = .body) (hi : g.ix n = some i) (hl : g.sc.names.lookup n = some .local) (hn : okNm n = true)
    (hz : L2N.Zn (cv y.cls) dx oe) (hf : ∃ vs, oe.data = .fields vs) : XOk (X.suite a ((a, oe) :: pn)) { g with md := .suite y (some (n, i)) } cv fn (some (i, a, y, dx)) := by
  have hm' : g.md ≠ .blk := fun z => by rw [hm] at z; cases z
  refine ⟨o.N, o.nd, o.sc, o.hu, fun _ => o.fnT hm', fun z => (by cases z), o.gl, o.sub, o.isi, fun z => (by cases z), o.na, o.xf, fun y' n' i' z => ?_, fun y' z => (by cases z), o.dig, fun z => (by cases z), fun z => (by cases z), fun _ => ?_⟩
  rotate_left
  · obtain ⟨k, hr, F⟩ := o.hotB hm
    obtain ⟨vs, hd⟩ := hf
    refine ⟨(a, oe), k, ⟨rfl, vs, hd, hz.2.2 vs hd⟩, List.mem_cons_self, ⟨hr.dp, hr.un⟩, F, fun i' a' y' dd' e => ?_⟩
    cases e
    exact ⟨rfl, hz⟩
  cases z
  have hi' := ix_of o hi
  refine ⟨hi', by show X.env.scope.names.lookup n = _; rw [o.sc]; exact hl, hn, a, dx, rfl, fun c2 b hb => ?_, fun f C e te pos hC T hno he hb => ?_⟩
  · obtain ⟨h1, C, h2, h3⟩ := o.isi _ _ _ hb
    rw [h2] at hz
    have hc := isi_told (X := X) (pn := pn) (a := a) h3 hz.zc hf
    intro pins s σ H vs us Q I r q
    obtain ⟨v, rfl, hd, hv, q⟩ := q
    exact hc pins s σ H _ us Q I r ⟨v, cv c2, b, rfl, hd, hv, by rw [h2] at h1; exact h1, q⟩
  · exact pe_xf T hno hz.zc hf he hb
theorem XOk.suiteU {a : Addr} {oe : Obj} {pn : List (Addr × Obj)} {y : Xc} (o : XOk X g cv fn xs) (hm : g.md = .body) : XOk (X.suite a ((a, oe) :: pn)) { g with md := .suite y none } cv fn none := by
  have hm' : g.md ≠ .blk := fun z => by rw [hm] at z; cases z
  exact ⟨o.N, o.nd, o.sc, o.hu, fun _ => o.fnT hm', fun z => (by cases z), o.gl, o.sub, o.isi, fun z => (by cases z), o.na, o.xf, fun y' n' i' z => (by cases z), fun y' z => rfl, o.dig, fun z => (by cases z), fun z => (by cases z), fun z => (by cases z)⟩
theorem d_Try {body : List Stmt} {hs : List ExceptHandler} {hdl : Hd} (hd : Sd d) (o : XOk X g cv fn xs) (tk : L2N.Takes X W) (hm : g.md = .body) (h : denH d g hs = some hdl) : PS X (.Try body hs [] [] pos) (PS_ (FX X cv fn xs) W (sTry g.sub (denSs d g body) hdl)) := by
  have hx : xs = none := (o.calm (by unfold G.calm; rw [hm])).2.1
  obtain ⟨hst, hfr⟩ := o.body hm
  unfold denH at h
  split at h
  · rename_i x np n b bs p
    split at h
    · rename_i c i ec ei
      split at h
      · rename_i hl
        cases h
        rw [Bool.and_eq_true] at hl
        have hl1 : g.sc.names.lookup n = some .local := by simpa using hl.1
        have hk : X.env.kindOf n = some .local := by unfold Env.kindOf; rw [o.sc]; exact hl1
        exact s_try hx hst hfr o.nd (ix_of o ei) hk (names_of o ec) tk o.sub (fun W pn xe tk' hp => d_Ss hd (XOk.tr o hm) tk' hp (fun z => by rw [hm] at z; cases z) body)
          fun a oe y dx pn hz hf hd' => d_Ss hd (XOk.suiteS o hm ei hl1 hl.2 hz hf) takesN PassesOwn.never (fun z => by cases z) (b :: bs)
      · cases h
    · cases h
  · rename_i x np b bs p
    split at h
    · rename_i c ec
      cases h
      exact s_tryN hx hst hfr (names_of o ec) tk o.sub (fun W pn xe tk' hp => d_Ss hd (XOk.tr o hm) tk' hp (fun z => by rw [hm] at z; cases z) body)
        fun a oe y pn => d_Ss hd (XOk.suiteU o hm) takesN PassesOwn.never (fun z => by cases z) (b :: bs)
    · cases h
  · cases h
theorem hdd_of (hd : Sd d) (o : XOk X g cv fn xs) (hm : g.md = .body) : ∀ {hs : List ExceptHandler} {hds : List Hd}, denHs d g hs = some hds → HdD X cv fn hs hds
  | [], _, h => by cases h; exact .nil
  | h0 :: hs, hds, h => by
    unfold denHs at h
    split at h
    · rename_i a r e1 e2
      cases h
      have ih := hdd_of hd o hm e2
      unfold denH at e1
      split at e1
      · rename_i x np n b bs p e0
        cases e0
        split at e1
        · rename_i c i ec ei
          split at e1
          · rename_i hl
            cases e1
            rw [Bool.and_eq_true] at hl
            have hl1 : g.sc.names.lookup n = some .local := by simpa using hl.1
            have hk : X.env.kindOf n = some .local := by unfold Env.kindOf; rw [o.sc]; exact hl1
            exact .as_ (ix_of o ei) hk (names_of o ec) (fun a oe y dx pn hz hf hd' => d_Ss hd (XOk.suiteS o hm ei hl1 hl.2 hz hf) takesN PassesOwn.never (fun z => by cases z) (b :: bs)) ih
          · cases e1
        · cases e1
      · rename_i x np b bs p e0
        cases e0
        split at e1
        · rename_i c ec
          cases e1
          exact .one (names_of o ec) (fun a oe y pn => d_Ss hd (XOk.suiteU o hm) takesN PassesOwn.never (fun z => by cases z) (b :: bs)) ih
        · cases e1
      · cases e1
    · cases h
theorem d_TryM {body : List Stmt} {h0 : ExceptHandler} {hs : List ExceptHandler} {hds : List Hd} (hd : Sd d) (o : XOk X g cv fn xs) (tk : L2N.Takes X W) (hm : g.md = .body) (h : denHs d g (h0 :: hs) = some hds) : PS X (.Try body (h0 :: hs) [] [] pos) (PS_ (FX X cv fn xs) W (sTryM g.sub (denSs d g body) hds)) := by
  have hx : xs = none := (o.calm (by unfold G.calm; rw [hm])).2.1
  obtain ⟨hst, hfr⟩ := o.body hm
  have hdd := hdd_of hd o hm h
  subst hx
  exact s_tries hst hfr o.nd tk o.sub (fun W pn xe tk' hp => d_Ss hd (XOk.tr o hm) tk' hp (fun z => by rw [hm] at z; cases z) body) hdd
theorem swap_fold {x y : Str} {px py pt pt2 : Pos} {kt k2 : Nat} {a b : Expr} {env : Env} (h : okFold a b = true) : swappedStores [.Tuple [.Name x px, .Name y py] kt pt] (.Tuple [a, b] k2 pt2) env = pure none := by
  have h' : ([a, b].all (foldedForSure 8)) = true := by
    unfold okFold at h
    rw [List.all_cons, List.all_cons, List.all_nil, Bool.and_true]
    exact h
  unfold swappedStores
  dsimp only
  rw [h']
  split
  · rfl
  · split
    · rfl
    · split
      · rfl
      · rfl
theorem sole_of {tg e : Expr} {l : Nat} {env : Env} (h : okAs tg e = true) : swapsWithSole [tg] e l env = pure false := by
  show swapsWith e (some tg) l env = pure false
  cases tg with
  | Name x p =>
    refine sw_none ?_
    have h' : (!isLc e) = true := h
    simpa using h'
  | Subscript a b p => cases e <;> rfl
  | Tuple es k p => cases e <;> rfl
  | _ => cases h
theorem swap_of {tg e : Expr} {env : Env} (h : okAs tg e = true) : swappedStores [tg] e env = pure none := by
  cases tg with
  | Name x p => cases e <;> rfl
  | Subscript a b p => cases e <;> rfl
  | Tuple es k p => cases e <;> first | rfl | cases h
  | _ => cases h
theorem each_of {tg e : Expr} {env : Env} (h : okAs tg e = true) : (assignEach [tg] env).map (·.2) = [assign tg env] := by
  cases tg <;> first | rfl | cases h
theorem s_asK {st : Stmt} {k : GD} : PS X st (PS_ (FX X cv fn xs) W (sAs dK k)) := ⟨fun _ _ _ _ _ _ ⟨_, _, _, _, _, p⟩ => p.elim⟩
theorem aug_of {b : Expr} (h : isSlice b = false) : ∀ ov iv new, augStore b ov iv new = (do holding [new, ov, iv] (setItem ov iv new); release [new, ov, iv] []; pure .next) := by
  intro ov iv new
  cases b <;> first | rfl | (cases h)
theorem asG_rd {i : Nat} {D : Ends} {σ : L2.St} {m : Nat → Addr} {h : Hh} {H : Hp} {r : R Mn.D} (hx : xs = none) (p : PO (FX X cv fn xs) W (rdR (FX X cv fn xs)) σ m h H r (fun x H1 => PGD_ (FX X cv fn xs) W (ofG (gN i)) x σ H1 D.nx)) : PO (FX X cv fn xs) W (rdR (FX X cv fn xs)) σ m h H r (fun x H1 => gName i x σ H1 D.nx) := by
  cases r with
  | stuck => exact p
  | exc x h1 => exact p
  | ok d h1 =>
    intro m1 H1 v g1 rh1 r1
    obtain ⟨m2, h2, d2, e2, rh2, re2, rd2, p2⟩ := p m1 H1 v g1 rh1 r1
    exact p2 m2 H1 _ Ge.refl rh2 (re2.set i (fun j a h => by rw [show xs = some (j, a) from h] at hx; cases hx) rd2)
theorem swap_yes {x y : Str} {px py pt pt2 : Pos} {kt k2 : Nat} {a b : Expr} (o : XOk X g cv fn xs) (h : okPar g x y px py a b = true) : swappedStores [.Tuple [.Name x px, .Name y py] kt pt] (.Tuple [a, b] k2 pt2) X.env = pure (some [x, y]) := by
  unfold okPar at h
  simp only [Bool.and_eq_true, Bool.not_eq_true'] at h
  obtain ⟨⟨⟨⟨⟨⟨⟨⟨⟨h0, h1⟩, h2⟩, h3⟩, h4⟩, h5⟩, h6⟩, h7⟩, h8⟩, h9⟩ := h
  have k1 : X.env.blockKind = .function := by
    have e : g.sc.kind = .function := by simpa using h1
    unfold Env.blockKind
    rw [o.sc, e]
    rfl
  have k5 : X.env.kindOf x = some .local := by unfold Env.kindOf; rw [o.sc]; simpa using h5
  have k6 : X.env.kindOf y = some .local := by unfold Env.kindOf; rw [o.sc]; simpa using h6
  have ed : ([x, y].eraseDups.length != [x, y].length) = false := by
    have hxy : (x == y) = false := h7
    have hyx : (y == x) = false := by
      have : x ≠ y := by simpa using hxy
      simpa using Ne.symm this
    simp [List.eraseDups_cons, hxy, hyx]
  unfold swappedStores
  dsimp only
  generalize hw : List.any [a, b] _ = w
  have ew : w = false := by
    rw [← hw, List.any_cons, List.any_cons, List.any_nil]
    cases a <;> first | (cases h2; done) | (cases b <;> first | (cases h3; done) | rfl)
  generalize hq : List.filterMap _ [Expr.Name x px, Expr.Name y py] = q
  have eq : q = [x, y] := by
    have hp : (Expr.Name x px).pos.line = px.line := rfl
    have hl2 : py.line = px.line := by simpa using h4
    rw [← hq]
    simp [List.filterMap_cons, k5, k6, hp, hl2]
  subst ew eq
  rw [k1, if_neg (by show ¬ (false = true); decide), if_neg (by decide), if_neg (by
    have z : ([x, y].length != [Expr.Name x px, Expr.Name y py].length) = false := rfl
    rw [z, ed]; decide)]
  rw [if_neg (by show ¬ ((foldedForSure 8 a && (foldedForSure 8 b && true)) = true); rw [Bool.and_true, h8]; decide), if_neg (by show ¬ ((constantsAlone 8 a && (constantsAlone 8 b && true)) = true); rw [Bool.and_true, h9]; decide)]
theorem d_FH {tg it : Expr} {body : List Stmt} (hd : Sd d) (o : XOk X g cv fn xs) (tk : L2N.Takes X W) (hp : PassesOwn (model X.prog X.w) X.A X.env X.xe) (hm : g.md ≠ .blk) : PS X (.For tg it body [] pos) (PS_ (FX X cv fn xs) W (denFH d g tg it body)) := by
  unfold denFH
  split
  · rename_i hh
    split
    · rename_i x p1 a p2
      split
      · rename_i hb
        split
        · rename_i hc
          obtain ⟨hx, hs⟩ := hc
          cases beqs hx
          split
          · rename_i is t et
            obtain ⟨pp, k, h1, hpp, _⟩ := o.hot hh
            obtain ⟨gl, ml, nl, _⟩ := glob_of o hb
            exact s_forH hp ⟨pp, h1, hpp⟩ (i_range1H gl ml (hd.E X g cv fn xs W o tk a) (star_of hs)) (d_tg o (stOk_of o hm) et fun _ _ => trivial) (d_Ss hd o tk hp hm body) (set_of rfl)
          · exact s_K
        · exact s_K
      · exact s_K
    · exact s_K
  · exact s_K
theorem d_S (hd : Sd d) (o : XOk X g cv fn xs) (tk : L2N.Takes X W) (hp : PassesOwn (model X.prog X.w) X.A X.env X.xe) (hm : g.md ≠ .blk) : ∀ (s : Stmt), PS X s (PS_ (FX X cv fn xs) W (stepS d g s)) := by
  intro s
  unfold stepS
  split
  · exact s_pass
  · exact s_brk
  · exact s_cont
  · split
    · exact s_K
    · rename_i h
      exact s_ex (hd.E X g cv fn xs W o tk _) (sw_none (bfalse h))
  · exact s_rt (hd.E X g cv fn xs W o tk _)
  · exact s_rtN
  · exact s_ifS (hd.T X g cv fn xs W o tk _) (d_Ss hd o tk hp hm _) (d_Ss hd o tk hp hm _)
  · rename_i y py el gs sc cpos spos
    split
    · rename_i hcell
      have k : X.env.kindOf y = some .cell := by unfold Env.kindOf; rw [o.sc]; simpa using hcell
      refine s_as (hd.E X g cv fn xs W o tk _) (d_G hd o tk hm _) ?_ rfl rfl
      show swapsWith (.ListComp el gs sc cpos) (some (.Name y py)) spos.line X.env = pure false
      unfold swapsWith
      simp only [k]
      have z : (some NameKind.cell == some NameKind.local) = false := rfl
      rw [z, Bool.and_false, Bool.false_and, Bool.false_and]
    split
    · rename_i i ei
      split
      · rename_i hc
        simp only [Bool.and_eq_true] at hc
        obtain ⟨⟨⟨hy, hl⟩, hn⟩, hcalm⟩ := hc
        have hy' : g.sc.names.lookup y = some .local := by simpa using hy
        have hyX : X.env.scope.names.lookup y = some .local := by rw [o.sc]; exact hy'
        have hN := (sto_of o ei).1
        obtain ⟨hc1, hx, _⟩ := o.calm hcalm
        unfold denLc
        split
        · rename_i tg it ifs
          dsimp only
          split
          · rename_i is t et
            split
            · rename_i hc
              obtain ⟨h1, h2, h3, h4⟩ := hc
              have ok : BlkOk X.N X.env.scope sc (ownOf g sc) := blkOk_by (by rw [o.N, o.sc]; exact h2)
              have hi : PI X tg it (PI_ (FX X cv fn xs) W (denI d g tg it)) := d_I hd o tk it
              have hg : ∀ (s : Shared) (H : Hp) (C : Addr) (cl : List (Str × Addr)) (fp : List Addr), PG (X.blk s H sc (compEnvC sc cl C X.env) fp) tg (PG_ (FX X cv fn xs) is t) := fun s H C cl fp => d_tg (X := X.blk s H sc (compEnvC sc cl C X.env) fp) (XOk.blk o h1) (blk_st o h1 ok) et (allMem h3)
              have ht : ∀ (s : Shared) (H : Hp) (C : Addr) (cl : List (Str × Addr)) (fp : List Addr), PTs (X.blk s H sc (compEnvC sc cl C X.env) fp) ifs (PT_ (FX X cv fn xs) (fun _ _ _ _ => False) (denTs d { g with sc := relS sc g.sc, md := .blk } ifs)) := fun s H C cl fp => d_Ts (X := X.blk s H sc (compEnvC sc cl C X.env) fp) hd (XOk.blk o h1) takesN ifs
              have he : ∀ (s : Shared) (H : Hp) (C : Addr) (cl : List (Str × Addr)) (fp : List Addr), PE (X.blk s H sc (compEnvC sc cl C X.env) fp) el (PE_ (FX X cv fn xs) (fun _ _ _ _ => False) (d.E { g with sc := relS sc g.sc, md := .blk } el)) := fun s H C cl fp => hd.E (X.blk s H sc (compEnvC sc cl C X.env) fp) _ cv fn xs _ (XOk.blk o h1) takesN el
              exact ⟨fun pins s σ H D I q => (s_asLc hx hc1 o.nd hN hyX (sw_true I.ok.kind hyX hl (by simpa using hn)) hi ok hg ht he (allMem h3) (set_of h4)).run pins s σ H D I q⟩
            · exact s_asK
          · exact s_asK
        · rename_i tg it ifs tg1 it1 ifs1
          dsimp only
          split
          · rename_i is t is1 t1 et et1
            split
            · rename_i hc
              obtain ⟨h1, h2, h3, h3', h4, h4'⟩ := hc
              obtain ⟨ok, hg, hg1, ht, ht1, hi1, he⟩ := lc2_parts (is := is) (t := t) (is1 := is1) (t1 := t1) (el := el) (ifs := ifs) (ifs1 := ifs1) (it1 := it1) hd o h1 h2 h3 h3' et et1
              have hi : PI X tg it (PI_ (FX X cv fn xs) W (denI d g tg it)) := d_I hd o tk it
              refine ⟨fun pins s σ H D I q => ?_⟩
              refine (ps_setLc2 hc1 o.nd hN hyX (sw_true I.ok.kind hyX hl (by simpa using hn)) hi ok (allMem h3') hg ht hi1 hg1 ht1 he (set_of h4) (fun env x => set_of h4' x)).run pins s σ H D I ?_
              have q1 := as_rd q
              obtain ⟨m, e, h, rh, re, p⟩ := q1
              refine s_lc2 (it := it) (it1 := it1) (el := el) (ifs := ifs) (ifs1 := ifs1) (scope := sc) hx (allMem h3) (Q := fun x H1 => gName i x σ H1 D.nx) ⟨m, e, h, rh, re, ?_⟩
              exact asG_rd hx p
            · exact s_asK
          · exact s_asK
        · exact s_asK
      · exact s_K
    · exact s_K
  · rename_i x px y py kt pt a b k2 pt2 p
    unfold denPar
    split
    · rename_i i j ei ej
      split
      · rename_i hp'
        have hp2 := hp'
        unfold okPar at hp2
        simp only [Bool.and_eq_true, Bool.not_eq_true'] at hp2
        obtain ⟨⟨⟨⟨⟨⟨⟨⟨⟨h0, h1⟩, h2⟩, h3⟩, h4⟩, h5⟩, h6⟩, h7⟩, h8⟩, h9⟩ := hp2
        obtain ⟨cm, hx, _⟩ := o.calm h0
        have hij : i ≠ j := fun z => by
          subst z
          have e1 := ix_of o ei
          rw [ix_of o ej] at e1
          cases e1
          simp at h7
        exact s_par hx cm o.nd (ix_of o ei) (ix_of o ej) hij (by rw [o.sc]; simpa using h5) (by rw [o.sc]; simpa using h6) (hd.E X g cv fn xs W o tk a) (hd.E X g cv fn xs W o tk b) (star_of h2) (star_of h3) (swap_yes o hp')
      · split
        · rename_i hf
          exact s_as (hd.E X g cv fn xs W o tk _) (d_G hd o tk hm _) rfl (swap_fold hf) rfl
        · exact s_K
    · exact s_K
  · rename_i oe f p1 e p2
    split
    · rename_i i ei
      obtain ⟨rfl, hi⟩ := fid_of ei
      split
      · exact s_fl o.na hi (hd.E X g cv fn xs W o tk _) (hd.E X g cv fn xs W o tk _) (by cases e <;> rfl)
      · exact s_K
    · exact s_K
  · split
    · rename_i h
      exact s_as (hd.E X g cv fn xs W o tk _) (d_G hd o tk hm _) (sole_of h) (swap_of h) (each_of h)
    · exact s_K
  · exact d_Aug hd o tk hm
  · split
    · exact s_K
    · rename_i hs
      exact s_augI (o_iop (cv := cv) (fn := fn) (xs := xs) _) (hd.E X g cv fn xs W o tk _) (hd.E X g cv fn xs W o tk _) (hd.E X g cv fn xs W o tk _) (aug_of (bfalse hs))
  · rename_i oe f p1 op e p2
    split
    · rename_i i ei
      obtain ⟨rfl, hi⟩ := fid_of ei
      exact s_augF o.na hi (hd.E X g cv fn xs W o tk _) (hd.E X g cv fn xs W o tk _) (o_iop (cv := cv) (fn := fn) (xs := xs) _)
    · exact s_K
  · rename_i tg it body p
    split
    · rename_i hc
      obtain ⟨hc, hs⟩ := hc
      split
      · rename_i is t et
        exact s_for hp (o.calm hc).1 (d_I hd o tk it) (d_tg o (stOk_of o hm) et fun _ _ => trivial) (d_Ss hd o tk hp hm body) (set_of hs)
      · exact s_K
    · exact d_FH hd o tk hp hm
  · exact s_while g.fuel hp (hd.T X g cv fn xs W o tk _) (d_Ss hd o tk hp hm _)
  · rename_i x p1 p2 p3
    split
    · rename_i hc
      split
      · rename_i c ec
        obtain ⟨gl, ⟨C, e1, e2, e3, e4, e5, e6⟩, nm, _⟩ := glob_of o ec
        exact s_raise (o.calm hc).2.1 (o.calm hc).1 tk e1 (pmk0 PySem.F.excBase_ValueError e4 e2 e3 (raises_own e5 e6) gl (okNm_of nm).1)
      · exact s_K
    · exact s_K
  · rename_i x p1 a as p2 p3
    split
    · rename_i hc
      obtain ⟨hc, hst⟩ := hc
      split
      · rename_i c fs ec
        split
        · rename_i hf
          obtain ⟨gl, ⟨C, e1, e2, e3, T, fI, fd, ps, h1, h2, h3, h4⟩, nm, _⟩ := glob_of o ec
          obtain ⟨cm, hxs, k, hr, hk, _⟩ := o.calm hc
          subst hxs
          have hst' := hst
          rw [List.any_cons, Bool.or_eq_false_iff] at hst'
          exact s_raiseA ⟨e1, T, fI, fd, ps, h1, h2, h3 _ _ _ _ _, h4⟩ cm tk (hr.mono (by omega)) gl e2 (d_A hd o tk _ hst) hf.1 hf.2 (okNm_of nm).1 (star_of hst'.1) (plain_of hst'.2)
        · exact s_K
      · exact s_K
    · exact s_K
  · rename_i body hs p
    split
    · rename_i hm'
      split
      · rename_i hdl eh
        exact d_Try hd o tk hm' eh
      · split
        · rename_i h0 hs0 hds eh
          exact d_TryM hd o tk hm' eh
        · exact s_K
    · exact s_K
  · exact s_K
end
end Mn
namespace Mn
open PySem L2
theorem d_zero : Sd (dd 0) := ⟨fun _ _ _ _ _ _ _ _ _ => e_K, fun _ _ _ _ _ _ _ _ _ => t_K, fun _ _ _ _ _ _ _ _ _ _ _ => s_K⟩
theorem d_all : ∀ n, Sd (dd n)
  | 0 => d_zero
  | n + 1 => ⟨fun _ _ _ _ _ _ o tk e => d_E (d_all n) o tk e, fun _ _ _ _ _ _ o tk e => d_T (d_all n) o tk e, fun _ _ _ _ _ _ o tk hp hm e => d_S (d_all n) o tk hp hm e⟩
structure Df where
  N : List Str
  sc : Scope
  body : List Stmt
structure Pg where
  defs : List Df
  gl : List (Str × GV)
  fl : List (Str × Nat)
  ms : List (Str × List (Nat × Nat × Nat × List D))
  sub : Nat → Nat → Option Bool
  isi : Nat → Nat → Option Bool
  xa : Nat → List Nat
  fuel : Nat
abbrev dep : Nat := 60
abbrev HX := (Nat → FD) × (Nat → Xc → Hh → R D)
def Pg.g (P : Pg) (T : Nat → FD) (J : HX) (df : Df) : G := { N := df.N, sc := df.sc, gl := P.gl, fl := P.fl, ms := P.ms, T := T, TH := J.1, TX := J.2, sub := P.sub, isi := P.isi, xa := P.xa, fuel := P.fuel, md := .body }
noncomputable def Pg.run (P : Pg) (T : Nat → FD) (J : HX) (df : Df) : FD := fnRun (denSs (dd dep) (P.g T J df) df.body) df.N.length
def noT : Nat → FD := fun _ _ _ => .stuck
noncomputable def Pg.runH (P : Pg) (J : HX) (df : Df) : FD := fnRun (denSs (dd dep) { P.g noT J df with md := .hot } df.body) df.N.length
def endD : RS → R D
  | .go .nx _ h => .ok .non h
  | .go (.rt d) _ h => .ok d h
  | .exc x _ h => .exc x h
  | _ => .stuck
def Df.n0 (df : Df) : Str := df.N.headD (Str.ofString "")
noncomputable def Pg.runX (P : Pg) (J : HX) (df : Df) (y : Xc) : Hh → R D := fun h => if (df.sc.names.lookup df.n0 == some .local && okNm df.n0) = true then endD (denSs (dd dep) { P.g noT J df with md := .suite y (some (df.n0, 0)) } df.body (List.replicate df.N.length none) h) else .stuck
noncomputable def Pg.hx (P : Pg) : Nat → HX
  | 0 => (noT, fun _ _ _ => .stuck)
  | k + 1 => (fun id => match P.defs[id]? with
    | some df => P.runH (P.hx k) df
    | none => noT 0, fun id y => match P.defs[id]? with
    | some df => P.runX (P.hx k) df y
    | none => fun _ => .stuck)
noncomputable def Pg.tbl (P : Pg) : Nat → Nat → FD
  | 0 => fun _ _ _ => .stuck
  | k + 1 => fun id => match P.defs[id]? with
    | some df => P.run (P.tbl k) (P.hx k) df
    | none => fun _ _ => .stuck
structure DfB (K : PySem.W.Frag) (n : Nat) (df : Df) (f : Addr) (fd : FuncData) (ps : List Str) : Prop where
  ex : ∃ (oc : Value) (od : Option Addr) (name qual : Str) (params : Arguments) (dV kV doc pm : Value) (an : Option Addr) (cdv ct : Value) (osl : Array (Option Value)),
    fd = PySem.W.fnOf name qual params df.body df.sc dV kV doc pm an cdv ct ∧ K.lookup f = some ⟨oc, od, .func fd, osl⟩ ∧ PySem.W.codeIn K cdv qual = true
  np : ps.length = n
  sc : FnScope df.N ps df.sc
def DfD (K : PySem.W.Frag) (dv : List D) (fd : FuncData) (ps : List Str) : Prop := ∃ (dvs : List V), (∀ m N H, RDs K m N H dv dvs) ∧ ∀ j, j ≤ dv.length → ∃ ws, Vals (dvs.drop j) ws ∧ Binds K fd ps ws
structure DfOk (K : PySem.W.Frag) (mg : Str → Option Value) (x : Str) (n : Nat) (dv : List D) (df : Df) (f : Addr) (fd : FuncData) (ps : List Str) : Prop extends DfB K n df f fd ps where
  at_ : mg x = some (.ref f)
  kp : PySem.W.keepIn K (.ref f) = true
  b0 : dv = [] → ∀ us : List Value, us.length = ps.length → bindArgs fd ⟨us, []⟩ = pure (ps.zip us)
  dv : DfD K dv fd ps
structure ClOk (K : PySem.W.Frag) (mg : Str → Option Value) (cv : Nat → Value) (x : Str) (c n : Nat) (dv : List D) (pc : List Nat) (ks : List (Nat × List Str × List KP × List D)) (df : Df) (C g : Addr) (fd : FuncData) (ps : List Str) : Prop extends DfB K n df g fd ps where
  at_ : mg x = some (.ref C)
  hC : cv c = .ref C
  cl : Cls K C
  mk' : Mk K C g
  dvs : ∃ dvs : List V, (∀ m N H, RDs K m N H dv dvs) ∧ ∀ j, pc.elem j = true → j + 1 ≤ n ∧ n - (j + 1) ≤ dv.length ∧ ∃ ws, Vals (dvs.drop (dv.length - (n - (j + 1)))) ws ∧ Binds K fd ps ws
  kvs : ∀ t ∈ ks, KsOk K fd ps n t
def MeOk (P : List Df) (K : PySem.W.Frag) (cv : Nat → Value) (m : Str) (e : Nat × Nat × Nat × List D) : Prop := ∃ (df : Df) (C g : Addr) (fd : FuncData) (ps : List Str), P[e.2.1]? = some df ∧ cv e.1 = .ref C ∧ MethP K C m e.2.2.1 g ∧ DfB K (mN e.2.2.1) df g fd ps ∧ DfD K e.2.2.2 fd ps
structure PgOk (P : Pg) (K : PySem.W.Frag) (mg : Str → Option Value) (cv : Nat → Value) : Prop where
  gl : ∀ x v, P.gl.lookup x = some v → GlOk K mg cv x v
  sub : ∀ c1 c2 b, P.sub c1 c2 = some b → PySem.W.exmOne K (cv c1) (cv c2) = some b
  isi : ∀ c1 c2 b, P.isi c1 c2 = some b → PySem.W.kitOne K (cv c1) (cv c2) = some b ∧ ∃ C, cv c1 = .ref C ∧ ExcC K C
  defs : ∀ x id n dv, P.gl.lookup x = some (.fn id n dv) → ∃ df f fd ps, P.defs[id]? = some df ∧ DfOk K mg x n dv df f fd ps
  cls : ∀ x c id n dv pc ks, P.gl.lookup x = some (.ucls c id n dv pc ks) → ∃ df C g fd ps, P.defs[id]? = some df ∧ ClOk K mg cv x c n dv pc ks df C g fd ps
  mts : ∀ m l, P.ms.lookup m = some l → ∀ e ∈ l, MeOk P.defs K cv m e
  na : NaOk K cv naT
  xf : ∀ c f, (P.xa c).elem f = true → ∃ C, cv c = .ref C ∧ XfC K C ∧ PySem.W.findIn K (.ref C) (fnm f) = some none
theorem start_re {T : Fx} (hx : T.ex = none) {m : Nat → Addr} {N : Nat} {H : Hp} {ns : List Str} {ds : List D} {vs : List V} (r : RDs T.K m N H ds vs) : RE T m N H (ds.map some ++ List.replicate (ns.length - ds.length) none) (L2.start ns vs) := by
  have hl := r.length
  refine ⟨?_, fun i d h => ?_, fun i a _ _ z => by rw [hx] at z; cases z⟩
  · unfold L2.start
    rw [List.length_append, List.length_append, List.length_map, List.length_map, List.length_replicate, List.length_replicate, hl]
  · by_cases hi : i < ds.length
    · rw [List.getElem?_append_left (by rw [List.length_map]; exact hi), List.getElem?_map] at h
      cases q : ds[i]? with
      | none => rw [q] at h; cases h
      | some d' =>
        rw [q] at h
        cases h
        obtain ⟨v, e, rv⟩ := r.get q
        refine ⟨v, ?_, rv⟩
        unfold L2.start
        rw [List.getElem?_append_left (by rw [List.length_map, ← hl]; exact hi), List.getElem?_map, e]
        rfl
    · rw [List.getElem?_append_right (by rw [List.length_map]; omega), List.getElem?_replicate] at h
      split at h <;> cases h
theorem fn_ok {P : Pg} {Pr : Program} {w : World} {K : PySem.W.Frag} {mg : Str → Option Value} {base : Heap} {cv : Nat → Value} {fn : Nat → Str} {k : Nat} {T : Nat → FD} {J : HX} {n : Nat} {df : Df} {f : Addr} {fd : FuncData} {ps : List Str}
    (o : PgOk P K mg cv) (hdg : base.NoDigits) (fs : FnsOk Pr w K mg base cv fn P.gl P.ms k T) (fh : FnsHOk Pr w K mg base cv fn P.gl k J.1 J.2) (hk : 1 ≤ k) (F : DfB K n df f fd ps) : FnOk Pr w K mg base (L2N.CX Pr w) (k + 2) f fd ps (spT ⟨K, cv, fn, none⟩ n (P.run T J df)) := by
  obtain ⟨oc, od, name, qual, params, dV, kV, doc, pm, an, cdv, ct, osl, rfl, lk, hcd⟩ := F.ex
  refine fn_of lk hcd F.sc (fun vs H Q E h => h.1.trans F.np.symm) fun A outer s H vs Q E hr hsp => ?_
  obtain ⟨hn, m, h, ds, rh, r, p⟩ := hsp
  have ok : XOk (cxOf (L2N.CX Pr w) Pr w K mg base df.N qual df.sc f cdv A outer s H E) (P.g T J df) cv fn none :=
    ⟨rfl, F.sc.nd, rfl, (show (A.deeper (PyProof.Rows.envOfC qual df.sc s.heap.objs.size f cdv)).units + 65 < cLine from by have := hr.un; omega), fun _ _ => rfl, fun _ => ⟨rfl, rfl, k, hr, hk, fs⟩, o.gl, o.sub, o.isi, fun _ => ⟨rfl, rfl⟩, o.na, o.xf, fun _ _ _ z => (by cases z), fun _ z => (by cases z), hdg, fun z => (by cases z), fun _ => ⟨k, L2H.roomH_of hr, fh⟩, fun z => (by cases z)⟩
  refine ⟨_, d_Ss (W := fun cls d _ H => E cls d H) (d_all dep) ok (L2N.takes_of rfl rfl rfl rfl) (passes_of rfl) (fun z => by cases z) df.body, ?_⟩
  refine ⟨m, _, h, rh, start_re (T := ⟨K, cv, fn, none⟩) rfl r, ?_⟩
  unfold Pg.run fnRun at p
  have hl := r.length
  cases q : denSs (dd dep) (P.g T J df) df.body (ds.map some ++ List.replicate (df.N.length - ds.length) none) h with
  | stuck => rw [q] at p; exact p.elim
  | exc y e1 h1 =>
    rw [q] at p
    exact fun m1 H1 σ1 cls d1 g1 rh1 _ rx => p m1 H1 cls d1 g1 rh1 rx
  | go fl e1 h1 =>
    rw [q] at p
    cases fl with
    | nx => exact fun m1 H1 σ1 g1 rh1 _ => p m1 H1 .non g1 rh1 .non
    | rt d => exact fun m1 H1 v g1 rh1 rd => p m1 H1 v g1 rh1 rd
    | bk => exact p.elim
    | ct => exact p.elim
theorem fnH_ok {P : Pg} {Pr : Program} {w : World} {K : PySem.W.Frag} {mg : Str → Option Value} {base : Heap} {cv : Nat → Value} {fn : Nat → Str} {k : Nat} {J : HX} {n : Nat} {df : Df} {f : Addr} {fd : FuncData} {ps : List Str}
    (o : PgOk P K mg cv) (hdg : base.NoDigits) (fh : FnsHOk Pr w K mg base cv fn P.gl k J.1 J.2) (F : DfB K n df f fd ps) : FnHX Pr w K mg base (k + 2) f fd ps (fun _ => spT ⟨K, cv, fn, none⟩ n (P.runH J df)) := by
  obtain ⟨oc, od, name, qual, params, dV, kV, doc, pm, an, cdv, ct, osl, rfl, lk, hcd⟩ := F.ex
  refine fnHX_of lk hcd F.sc (fun _ vs H Q E h => h.1.trans F.np.symm) fun A outer s H vs Q E pp hot hr hsp => ?_
  obtain ⟨hn, m, h, ds, rh, r, p⟩ := hsp
  have ok : XOk (L2H.cxH (L2N.CX Pr w) Pr w K mg base df.N qual df.sc f cdv A outer s H E pp) { P.g noT J df with md := .hot } cv fn none :=
    ⟨rfl, F.sc.nd, rfl, (show (A.deeper (PyProof.Rows.envOfC qual df.sc s.heap.objs.size f cdv)).units + 65 < cLine from by have := hr.un; omega), fun _ _ => rfl, fun z => (by cases z), o.gl, o.sub, o.isi, fun z => (by cases z), o.na, o.xf, fun _ _ _ z => (by cases z), fun _ z => (by cases z), hdg, fun _ => rfl, fun z => (by cases z),
      fun _ => ⟨pp, k, ⟨hot.1, hot.2⟩, List.mem_cons_self, hr, fh, fun _ _ _ _ e => nomatch e⟩⟩
  refine ⟨_, d_Ss (W := fun cls d _ H => E cls d H) (d_all dep) ok (L2N.takes_of rfl rfl rfl rfl) (passes_of rfl) (fun z => by cases z) df.body, ?_⟩
  refine ⟨m, _, h, rh, start_re (T := ⟨K, cv, fn, none⟩) rfl r, ?_⟩
  unfold Pg.runH fnRun at p
  have hl := r.length
  cases q : denSs (dd dep) { P.g noT J df with md := .hot } df.body (ds.map some ++ List.replicate (df.N.length - ds.length) none) h with
  | stuck => rw [q] at p; exact p.elim
  | exc y e1 h1 =>
    rw [q] at p
    exact fun m1 H1 σ1 cls d1 g1 rh1 _ rx => p m1 H1 cls d1 g1 rh1 rx
  | go fl e1 h1 =>
    rw [q] at p
    cases fl with
    | nx => exact fun m1 H1 σ1 g1 rh1 _ => p m1 H1 .non g1 rh1 .non
    | rt d => exact fun m1 H1 v g1 rh1 rd => p m1 H1 v g1 rh1 rd
    | bk => exact p.elim
    | ct => exact p.elim
theorem fnX_ok {P : Pg} {Pr : Program} {w : World} {K : PySem.W.Frag} {mg : Str → Option Value} {base : Heap} {cv : Nat → Value} {fn : Nat → Str} {k : Nat} {J : HX} {df : Df} {f : Addr} {fd : FuncData} {ps : List Str}
    (o : PgOk P K mg cv) (hdg : base.NoDigits) (fh : FnsHOk Pr w K mg base cv fn P.gl k J.1 J.2) (F : DfB K 1 df f fd ps) : FnHX Pr w K mg base (k + 2) f fd ps (spTX K cv fn (P.runX J df)) := by
  obtain ⟨oc, od, name, qual, params, dV, kV, doc, pm, an, cdv, ct, osl, rfl, lk, hcd⟩ := F.ex
  refine fnHX_of lk hcd F.sc (fun _ vs H Q E h => by rw [h.1]; exact F.np.symm) fun A outer s H vs Q E pp hot hr hsp => ?_
  obtain ⟨rfl, y, dx, m, h, hz, rh, rx, p⟩ := hsp
  unfold Pg.runX at p
  by_cases hc : (df.sc.names.lookup df.n0 == some .local && okNm df.n0) = true
  · rw [if_pos hc] at p
    rw [Bool.and_eq_true] at hc
    have hl1 : df.sc.names.lookup df.n0 = some .local := by simpa using hc.1
    have hN : ∃ r, df.N = df.n0 :: r := by
      have pre := F.sc.pre
      have np := F.np
      unfold Df.n0
      cases e : df.N with
      | nil => rw [e, List.take_nil] at pre; rw [← pre] at np; cases np
      | cons a r => exact ⟨r, rfl⟩
    obtain ⟨rN, hN⟩ := hN
    have h0 : df.N[0]? = some df.n0 := by rw [hN]; rfl
    have hfld : ∃ vs, pp.2.data = .fields vs := let ⟨vs, e, _⟩ := hot.2; ⟨vs, e⟩
    have ok : XOk (L2H.cxH (L2N.CX Pr w) Pr w K mg base df.N qual df.sc f cdv A outer s H E pp) { P.g noT J df with md := .suite y (some (df.n0, 0)) } cv fn (some (0, pp.1, y, dx)) := by
      refine ⟨rfl, F.sc.nd, rfl, (show (A.deeper (PyProof.Rows.envOfC qual df.sc s.heap.objs.size f cdv)).units + 65 < cLine from by have := hr.un; omega), fun _ _ => rfl, fun z => (by cases z), o.gl, o.sub, o.isi, fun z => (by cases z), o.na, o.xf, fun y' n' i' z => ?_, fun _ z => (by cases z), hdg, fun z => (by cases z), fun z => (by cases z),
        fun _ => ⟨pp, k, ⟨hot.1, hot.2⟩, List.mem_cons_self, hr, fh, fun _ _ _ _ e => by cases e; exact ⟨rfl, hz⟩⟩⟩
      cases z
      refine ⟨h0, hl1, hc.2, pp.1, dx, rfl, fun c2 b hb => ?_, fun f' C e te pos hC T hno he hb => ?_⟩
      · obtain ⟨h1, C, h2, h3⟩ := o.isi _ _ _ hb
        have hz' := hz.zc
        rw [h2] at hz'
        have hcl := isi_at (X := L2H.cxH (L2N.CX Pr w) Pr w K mg base df.N qual df.sc f cdv A outer s H E pp) (a := pp.1) (oe := pp.2) h3 List.mem_cons_self hz' hfld
        intro pins s σ H vs us Q I r q
        obtain ⟨v, rfl, hd, hv, q⟩ := q
        exact hcl pins s σ H _ us Q I r ⟨v, cv c2, b, rfl, hd, hv, by rw [h2] at h1; exact h1, q⟩
      · exact pe_xfAt (a := pp.1) (oe := pp.2) T hno List.mem_cons_self hz.zc hfld he hb
    refine ⟨_, d_Ss (W := fun cls d _ H => E cls d H) (d_all dep) ok (L2N.takes_of rfl rfl rfl rfl) (passes_of rfl) (fun z => by cases z) df.body, ?_⟩
    refine ⟨m, List.replicate df.N.length none, h, rh.ex, ⟨?_, fun i d z => ?_, fun i b x' d' e => ?_⟩, ?_⟩
    · unfold L2.start
      rw [List.length_replicate, List.length_append, List.length_map, List.length_replicate, hN]
      simp only [List.length_cons, List.length_nil]
      omega
    · rw [List.getElem?_replicate] at z
      split at z <;> cases z
    · cases e
      exact ⟨by unfold L2.start; rfl, rx⟩
    · cases q : denSs (dd dep) { P.g noT J df with md := .suite y (some (df.n0, 0)) } df.body (List.replicate df.N.length none) h with
      | stuck => rw [q] at p; exact p.elim
      | exc y e1 h1 =>
        rw [q] at p
        exact fun m1 H1 σ1 cls d1 g1 rh1 _ rx => p m1 H1 cls d1 g1 rh1.ex rx
      | go fl e1 h1 =>
        rw [q] at p
        cases fl with
        | nx => exact fun m1 H1 σ1 g1 rh1 _ => p m1 H1 .non g1 rh1.ex .non
        | rt d => exact fun m1 H1 v g1 rh1 rd => p m1 H1 v g1 rh1.ex rd
        | bk => exact p.elim
        | ct => exact p.elim
  · rw [if_neg hc] at p
    exact p.elim
theorem fnH_none {Pr : Program} {w : World} {K : PySem.W.Frag} {mg : Str → Option Value} {base : Heap} {cv : Nat → Value} {fn : Nat → Str} {k n : Nat} {df : Df} {f : Addr} {fd : FuncData} {ps : List Str} (F : DfB K n df f fd ps) : FnHX Pr w K mg base k f fd ps (fun _ => spT ⟨K, cv, fn, none⟩ n (noT 0)) :=
  ⟨fun _ vs H Q E z => z.1.trans F.np.symm, fun A outer s H args us vs Q E _ _ _ _ _ _ _ z => by
    obtain ⟨_, m, h, ds, _, _, p⟩ := z
    exact p.elim⟩
theorem fnX_none {Pr : Program} {w : World} {K : PySem.W.Frag} {mg : Str → Option Value} {base : Heap} {cv : Nat → Value} {fn : Nat → Str} {k n : Nat} {df : Df} {f : Addr} {fd : FuncData} {ps : List Str} (F : DfB K 1 df f fd ps) : FnHX Pr w K mg base k f fd ps (spTX K cv fn (fun _ _ => .stuck)) :=
  ⟨fun _ vs H Q E z => by rw [z.1]; exact F.np.symm, fun A outer s H args us vs Q E _ _ _ _ _ _ _ z => by
    obtain ⟨_, y, dx, m, h, _, _, _, p⟩ := z
    exact p.elim⟩
theorem fnsH_ok {P : Pg} {Pr : Program} {w : World} {K : PySem.W.Frag} {mg : Str → Option Value} {base : Heap} {cv : Nat → Value} {fn : Nat → Str} (o : PgOk P K mg cv) (hdg : base.NoDigits) : ∀ k, FnsHOk Pr w K mg base cv fn P.gl (2 * k + 2) (P.hx k).1 (P.hx k).2 := by
  have key : ∀ {k : Nat} {J : HX}, (∀ {id n : Nat} {df : Df} {f : Addr} {fd : FuncData} {ps : List Str}, P.defs[id]? = some df → DfB K n df f fd ps → FnHX Pr w K mg base k f fd ps (fun _ => spT ⟨K, cv, fn, none⟩ n (J.1 id)) ∧ (n = 1 → FnHX Pr w K mg base k f fd ps (spTX K cv fn (J.2 id)))) → FnsHOk Pr w K mg base cv fn P.gl k J.1 J.2 := fun hF => ⟨fun x id n dv h => by
    obtain ⟨df, f, fd, ps, h1, Q⟩ := o.defs x id n dv h
    obtain ⟨dvs, a, c⟩ := Q.dv
    obtain ⟨ws, v, b⟩ := c dv.length (Nat.le_refl _)
    have hl : dv.length = dvs.length := (a (fun _ => 0) 0 (fun _ => none)).length
    rw [hl, List.drop_length] at v
    cases v
    obtain ⟨q1, q2⟩ := hF h1 Q.toDfB
    exact ⟨f, fd, ps, Q.at_, Q.kp, Q.np, q1, q2, b⟩⟩
  intro k
  induction k with
  | zero => exact key fun h1 Q => ⟨fnH_none Q, fun e => by subst e; exact fnX_none (n := 1) Q⟩
  | succ k ih =>
    refine key fun {id n df f fd ps} h1 Q => ?_
    have e1 : (P.hx (k + 1)).1 id = P.runH (P.hx k) df := by
      show (match P.defs[id]? with | some df => P.runH (P.hx k) df | none => noT 0) = _
      rw [h1]
    have e2 : (P.hx (k + 1)).2 id = P.runX (P.hx k) df := by
      funext y
      show (match P.defs[id]? with | some df => P.runX (P.hx k) df y | none => fun _ => Mn.R.stuck) = _
      rw [h1]
    rw [e1, e2]
    exact ⟨fnH_ok o hdg ih Q, fun e => by subst e; exact fnX_ok o hdg ih Q⟩
theorem fn_none {Pr : Program} {w : World} {K : PySem.W.Frag} {mg : Str → Option Value} {base : Heap} {cv : Nat → Value} {fn : Nat → Str} {k n : Nat} {df : Df} {f : Addr} {fd : FuncData} {ps : List Str} (F : DfB K n df f fd ps) : FnOk Pr w K mg base (L2N.CX Pr w) k f fd ps (spT ⟨K, cv, fn, none⟩ n fun _ _ => .stuck) :=
  ⟨fun vs H Q E z => z.1.trans F.np.symm, fun A outer s H args us vs Q E _ _ _ _ z => by
    obtain ⟨_, m, h, ds, _, _, p⟩ := z
    exact p.elim⟩
theorem fns_of {P : Pg} {Pr : Program} {w : World} {K : PySem.W.Frag} {mg : Str → Option Value} {base : Heap} {cv : Nat → Value} {fn : Nat → Str} {k : Nat} {T : Nat → FD} (o : PgOk P K mg cv)
    (F : ∀ {id n : Nat} {df : Df} {f : Addr} {fd : FuncData} {ps : List Str}, P.defs[id]? = some df → DfB K n df f fd ps → FnOk Pr w K mg base (L2N.CX Pr w) k f fd ps (spT ⟨K, cv, fn, none⟩ n (T id))) : FnsOk Pr w K mg base cv fn P.gl P.ms k T where
  fns := fun x id n dv h => by
    obtain ⟨df, f, fd, ps, h1, Q⟩ := o.defs x id n dv h
    obtain ⟨dvs, a, c⟩ := Q.dv
    exact ⟨f, fd, ps, dvs, Q.at_, Q.kp, Q.np, F h1 Q.toDfB, a, c⟩
  cls := fun x c id n dv pc ks h => by
    obtain ⟨df, C, g, fd, ps, h1, Q⟩ := o.cls x c id n dv pc ks h
    obtain ⟨dvs, a, b⟩ := Q.dvs
    exact ⟨C, g, fd, ps, dvs, Q.at_, Q.hC, Q.cl, Q.mk', Q.np, F h1 Q.toDfB, a, b, Q.kvs⟩
  mts := fun m l h e he => by
    obtain ⟨df, C, g, fd, ps, h1, hC, M, Q, dvs, a, c⟩ := o.mts m l h e he
    exact ⟨C, g, fd, ps, dvs, hC, M, Q.np, F h1 Q, a, c⟩
theorem fns_ok {P : Pg} {Pr : Program} {w : World} {K : PySem.W.Frag} {mg : Str → Option Value} {base : Heap} {cv : Nat → Value} {fn : Nat → Str} (o : PgOk P K mg cv) (hdg : base.NoDigits) : ∀ k, FnsOk Pr w K mg base cv fn P.gl P.ms (2 * k + 2) (P.tbl k)
  | 0 => fns_of o fun _ Q => fn_none Q
  | k + 1 => fns_of o fun {id n df f fd ps} h1 Q => by
    have e : P.tbl (k + 1) id = P.run (P.tbl k) (P.hx k) df := by
      show (match P.defs[id]? with | some df => P.run (P.tbl k) (P.hx k) df | none => fun _ _ => Mn.R.stuck) = _
      rw [h1]
    rw [e]
    exact fn_ok o hdg (fns_ok o hdg k) (fnsH_ok o hdg k) (by omega) Q
def glAll (K : PySem.W.Frag) (mg : Str → Option Value) (cv : Nat → Value) : List (Str × GV) → Prop
  | [] => True
  | p :: r => GlOk K mg cv p.1 p.2 ∧ glAll K mg cv r
theorem glAll_of {K : PySem.W.Frag} {mg : Str → Option Value} {cv : Nat → Value} : ∀ {l : List (Str × GV)}, glAll K mg cv l → ∀ x v, l.lookup x = some v → GlOk K mg cv x v
  | [], _, _, _, h => by cases h
  | (y, u) :: r, a, x, v, h => by
    rw [List.lookup_cons] at h
    cases hb : x == y with
    | true =>
      rw [hb] at h
      cases h
      have e : x = y := by simpa using hb
      rw [e]
      exact a.1
    | false =>
      rw [hb] at h
      exact glAll_of a.2 x v h
def dfAll (P : List Df) (K : PySem.W.Frag) (mg : Str → Option Value) : List (Str × GV) → Prop
  | [] => True
  | (x, .fn id n dv) :: r => (∃ df f fd ps, P[id]? = some df ∧ DfOk K mg x n dv df f fd ps) ∧ dfAll P K mg r
  | _ :: r => dfAll P K mg r
theorem dfAll_tail {P : List Df} {K : PySem.W.Frag} {mg : Str → Option Value} {p : Str × GV} {r : List (Str × GV)} (a : dfAll P K mg (p :: r)) : dfAll P K mg r := by
  obtain ⟨y, u⟩ := p
  cases u <;> first | exact a.2 | exact a
theorem dfAll_of {P : List Df} {K : PySem.W.Frag} {mg : Str → Option Value} : ∀ {l : List (Str × GV)}, dfAll P K mg l → ∀ x id n dv, l.lookup x = some (.fn id n dv) → ∃ df f fd ps, P[id]? = some df ∧ DfOk K mg x n dv df f fd ps
  | [], _, _, _, _, _, h => by cases h
  | (y, u) :: r, a, x, id, n, dv, h => by
    rw [List.lookup_cons] at h
    cases hb : x == y with
    | true =>
      rw [hb] at h
      cases h
      have e : x = y := by simpa using hb
      rw [e]
      exact a.1
    | false =>
      rw [hb] at h
      exact dfAll_of (dfAll_tail a) x id n dv h
def tb2 (l : List (Nat × Nat × Bool)) : Nat → Nat → Option Bool := fun a b => (l.find? fun t => t.1 == a && t.2.1 == b).map (·.2.2)
def tbAll (Q : Nat → Nat → Bool → Prop) : List (Nat × Nat × Bool) → Prop
  | [] => True
  | t :: r => Q t.1 t.2.1 t.2.2 ∧ tbAll Q r
theorem tbAll_of {Q : Nat → Nat → Bool → Prop} : ∀ {l : List (Nat × Nat × Bool)}, tbAll Q l → ∀ a b k, tb2 l a b = some k → Q a b k
  | [], _, _, _, _, h => by cases h
  | t :: r, q, a, b, k, h => by
    unfold tb2 at h
    rw [List.find?_cons] at h
    cases hb : (t.1 == a && t.2.1 == b) with
    | true =>
      rw [hb] at h
      cases h
      rw [Bool.and_eq_true] at hb
      have e1 : t.1 = a := by simpa using hb.1
      have e2 : t.2.1 = b := by simpa using hb.2
      rw [← e1, ← e2]
      exact q.1
    | false =>
      rw [hb] at h
      exact tbAll_of q.2 a b k h
def clAll (P : List Df) (K : PySem.W.Frag) (mg : Str → Option Value) (cv : Nat → Value) : List (Str × GV) → Prop
  | [] => True
  | (x, .ucls c id n dv pc ks) :: r => (∃ df C g fd ps, P[id]? = some df ∧ ClOk K mg cv x c n dv pc ks df C g fd ps) ∧ clAll P K mg cv r
  | _ :: r => clAll P K mg cv r
theorem clAll_tail {P : List Df} {K : PySem.W.Frag} {mg : Str → Option Value} {cv : Nat → Value} {p : Str × GV} {r : List (Str × GV)} (a : clAll P K mg cv (p :: r)) : clAll P K mg cv r := by
  obtain ⟨y, u⟩ := p
  cases u <;> first | exact a.2 | exact a
theorem clAll_of {P : List Df} {K : PySem.W.Frag} {mg : Str → Option Value} {cv : Nat → Value} : ∀ {l : List (Str × GV)}, clAll P K mg cv l → ∀ x c id n dv pc ks, l.lookup x = some (.ucls c id n dv pc ks) → ∃ df C g fd ps, P[id]? = some df ∧ ClOk K mg cv x c n dv pc ks df C g fd ps
  | [], _, _, _, _, _, _, _, _, h => by cases h
  | (y, u) :: r, a, x, c, id, n, dv, pc, ks, h => by
    rw [List.lookup_cons] at h
    cases hb : x == y with
    | true =>
      rw [hb] at h
      cases h
      have e : x = y := by simpa using hb
      rw [e]
      exact a.1
    | false =>
      rw [hb] at h
      exact clAll_of (clAll_tail a) x c id n dv pc ks h
def meAll1 (P : List Df) (K : PySem.W.Frag) (cv : Nat → Value) (m : Str) : List (Nat × Nat × Nat × List D) → Prop
  | [] => True
  | e :: r => MeOk P K cv m e ∧ meAll1 P K cv m r
def meAll (P : List Df) (K : PySem.W.Frag) (cv : Nat → Value) : List (Str × List (Nat × Nat × Nat × List D)) → Prop
  | [] => True
  | p :: r => meAll1 P K cv p.1 p.2 ∧ meAll P K cv r
theorem meAll1_of {P : List Df} {K : PySem.W.Frag} {cv : Nat → Value} {m : Str} : ∀ {l : List (Nat × Nat × Nat × List D)}, meAll1 P K cv m l → ∀ e ∈ l, MeOk P K cv m e
  | [], _, _, h => by cases h
  | e :: r, a, e', h => by
    rcases List.mem_cons.mp h with h | h
    · rw [h]; exact a.1
    · exact meAll1_of a.2 e' h
theorem meAll_of {P : List Df} {K : PySem.W.Frag} {cv : Nat → Value} : ∀ {l : List (Str × List (Nat × Nat × Nat × List D))}, meAll P K cv l → ∀ m q, l.lookup m = some q → ∀ e ∈ q, MeOk P K cv m e
  | [], _, _, _, h, _, _ => by cases h
  | (y, u) :: r, a, m, q, h, e, he => by
    rw [List.lookup_cons] at h
    cases hb : m == y with
    | true =>
      rw [hb] at h
      cases h
      have em : m = y := by simpa using hb
      rw [em]
      exact meAll1_of a.1 e he
    | false =>
      rw [hb] at h
      exact meAll_of a.2 m q h e he
def noAll (K : PySem.W.Frag) (C : Addr) : List Nat → Prop
  | [] => True
  | f :: r => NoAttr K C (fnm f) ∧ noAll K C r
def naAll (K : PySem.W.Frag) (cv : Nat → Value) : List (Nat × List Nat) → Prop
  | [] => True
  | p :: r => (∀ C, cv p.1 = .ref C → noAll K C p.2) ∧ naAll K cv r
theorem noAll_of {K : PySem.W.Frag} {C : Addr} : ∀ {l : List Nat}, noAll K C l → ∀ f, l.elem f = true → NoAttr K C (fnm f)
  | [], _, _, h => by cases h
  | g :: r, a, f, h => by
    rw [List.elem_cons] at h
    cases hb : f == g with
    | true =>
      have e : f = g := by simpa using hb
      rw [e]
      exact a.1
    | false =>
      rw [hb] at h
      exact noAll_of a.2 f h
theorem naAll_of {K : PySem.W.Frag} {cv : Nat → Value} : ∀ {l : List (Nat × List Nat)}, naAll K cv l → ∀ c f, ((l.lookup c).getD []).elem f = true → ∀ C, cv c = .ref C → NoAttr K C (fnm f)
  | [], _, _, _, h, _, _ => by cases h
  | (d, fs) :: r, a, c, f, h, C, e => by
    rw [List.lookup_cons] at h
    cases hb : c == d with
    | true =>
      rw [hb] at h
      have e1 : c = d := by simpa using hb
      subst e1
      exact noAll_of (a.1 C e) f h
    | false =>
      rw [hb] at h
      exact naAll_of a.2 c f h C e
def xaOf (l : List (Nat × List Nat)) (c : Nat) : List Nat := (l.lookup c).getD []
def xfAll (K : PySem.W.Frag) (cv : Nat → Value) : List (Nat × List Nat) → Prop
  | [] => True
  | p :: r => (∃ C, cv p.1 = .ref C ∧ XfC K C ∧ noAll K C p.2) ∧ xfAll K cv r
theorem xfAll_of {K : PySem.W.Frag} {cv : Nat → Value} : ∀ {l : List (Nat × List Nat)}, xfAll K cv l → ∀ c f, (xaOf l c).elem f = true → ∃ C, cv c = .ref C ∧ XfC K C ∧ PySem.W.findIn K (.ref C) (fnm f) = some none
  | [], _, _, _, h => by cases h
  | (d, fs) :: r, a, c, f, h => by
    unfold xaOf at h
    rw [List.lookup_cons] at h
    cases hb : c == d with
    | true =>
      rw [hb] at h
      have e1 : c = d := by simpa using hb
      subst e1
      obtain ⟨C, h1, h2, h3⟩ := a.1
      exact ⟨C, h1, h2, noAll_of h3 f h⟩
    | false =>
      rw [hb] at h
      exact xfAll_of a.2 c f h
theorem dfb_mk {K : PySem.W.Frag} {x qual : Str} {st : Stmt} {f : Addr} {oc : Value} {od an : Option Addr} {osl : Array (Option Value)} {dV kV doc pm cdv ct : Value} {N ps : List Str}
    (l : K.lookup f = some ⟨oc, od, .func (PySem.W.fnOf x qual (defArgs st) (defBody st) (defScope st) dV kV doc pm an cdv ct), osl⟩) (c : PySem.W.codeIn K cdv qual = true) (S : FnScope N ps (defScope st)) :
    DfB K ps.length ⟨N, defScope st, defBody st⟩ f (PySem.W.fnOf x qual (defArgs st) (defBody st) (defScope st) dV kV doc pm an cdv ct) ps :=
  ⟨⟨oc, od, x, qual, _, _, kV, doc, pm, an, cdv, ct, osl, rfl, l, c⟩, rfl, S⟩
theorem dfd_mk {K : PySem.W.Frag} {x qual : Str} {st : Stmt} {kV doc pm cdv ct : Value} {an : Option Addr} {ps : List Str}
    (hb : ∀ (kV doc pm : Value) (an : Option Addr) (cdv ct : Value) (us : List Value), us.length = ps.length → bindArgs (PySem.W.fnOf x qual (defArgs st) (defBody st) (defScope st) .none kV doc pm an cdv ct) ⟨us, []⟩ = pure (ps.zip us)) :
    DfD K [] (PySem.W.fnOf x qual (defArgs st) (defBody st) (defScope st) .none kV doc pm an cdv ct) ps :=
  ⟨[], fun _ _ _ => .nil, fun j hj => ⟨[], by rw [List.drop_nil]; exact .nil, .all (hb kV doc pm an cdv ct)⟩⟩
theorem df_mk {K : PySem.W.Frag} {h : Heap} {mg : Str → Option Value} {x : Str} {st : Stmt} {f : Addr} {oc : Value} {od an : Option Addr} {osl : Array (Option Value)} {kV doc pm cdv ct : Value} {N ps : List Str} (X : K.In h) (G : h.Ns mainGlobals mg)
    (a : PySem.W.nsIn K mainGlobals x = some (some (.ref f))) (l : K.lookup f = some ⟨oc, od, .func (PySem.W.fnOf x x (defArgs st) (defBody st) (defScope st) .none kV doc pm an cdv ct), osl⟩) (c : PySem.W.codeIn K cdv x = true) (k : PySem.W.keepIn K (.ref f) = true)
    (S : FnScope N ps (defScope st)) (hb : ∀ (kV doc pm : Value) (an : Option Addr) (cdv ct : Value) (us : List Value), us.length = ps.length → bindArgs (PySem.W.fnOf x x (defArgs st) (defBody st) (defScope st) .none kV doc pm an cdv ct) ⟨us, []⟩ = pure (ps.zip us)) :
    ∃ fd, DfOk K mg x ps.length [] ⟨N, defScope st, defBody st⟩ f fd ps :=
  ⟨_, ⟨dfb_mk l c S, PySem.W.mg_of X G a, k, fun _ => hb kV doc pm an cdv ct, dfd_mk hb⟩⟩
theorem dfd_mkD {K : PySem.W.Frag} {x qual : Str} {st : Stmt} {f T : Addr} {oc : Value} {od an : Option Addr} {osl : Array (Option Value)} {kV doc pm cdv ct : Value} {ps : List Str} {ob : Obj} {its : List Value} {nn : Nat} {dv : List D} {dvs : List V}
    (l : K.lookup f = some ⟨oc, od, .func (PySem.W.fnOf x qual (defArgs st) (defBody st) (defScope st) (.ref T) kV doc pm an cdv ct), osl⟩) (c : PySem.W.codeIn K cdv qual = true) (k : PySem.W.keepIn K (.ref f) = true)
    (lT : K.lookup T = some ob) (oT : ob.data = .seq its.toArray nn) (rT : Vals dvs its) (rd : ∀ m N H, RDs K m N H dv dvs) (hne : dvs ≠ [])
    (hb : ∀ j, j ≤ dv.length → ∀ (T : Addr) (kV doc pm : Value) (an : Option Addr) (cdv ct : Value) (us its : List Value), us.length = ps.length - (dvs.length - j) → its.length = dvs.length → ∃ k, bindArgs (PySem.W.fnOf x qual (defArgs st) (defBody st) (defScope st) (.ref T) kV doc pm an cdv ct) ⟨us, []⟩ = seqItems? (.ref T) >>= k ∧ k (some its.toArray) = pure (ps.zip (us ++ its.drop j)))
    (hl : dvs.length ≤ ps.length) : DfD K dv (PySem.W.fnOf x qual (defArgs st) (defBody st) (defScope st) (.ref T) kV doc pm an cdv ct) ps :=
  ⟨dvs, rd, fun j hj => FunD.binds1 (kws := []) ⟨⟨oc, od, .ref T, kV, doc, pm, an, cdv, ct, osl, rfl, l, c, .inr ⟨hne, T, ob, its, nn, rfl, lT, oT, rT⟩, .inl rfl⟩, k⟩ (ps.length - (dvs.length - j)) j hne (by omega) (hb j hj)⟩
theorem df_mkD {K : PySem.W.Frag} {h : Heap} {mg : Str → Option Value} {x : Str} {st : Stmt} {f T : Addr} {oc : Value} {od an : Option Addr} {osl : Array (Option Value)} {kV doc pm cdv ct : Value} {N ps : List Str} {ob : Obj} {its : List Value} {nn : Nat} {dv : List D} {dvs : List V} (X : K.In h) (G : h.Ns mainGlobals mg)
    (a : PySem.W.nsIn K mainGlobals x = some (some (.ref f))) (l : K.lookup f = some ⟨oc, od, .func (PySem.W.fnOf x x (defArgs st) (defBody st) (defScope st) (.ref T) kV doc pm an cdv ct), osl⟩) (c : PySem.W.codeIn K cdv x = true) (k : PySem.W.keepIn K (.ref f) = true)
    (lT : K.lookup T = some ob) (oT : ob.data = .seq its.toArray nn) (rT : Vals dvs its) (rd : ∀ m N H, RDs K m N H dv dvs) (hne : dvs ≠ [])
    (S : FnScope N ps (defScope st)) (hb : ∀ j, j ≤ dv.length → ∀ (T : Addr) (kV doc pm : Value) (an : Option Addr) (cdv ct : Value) (us its : List Value), us.length = ps.length - (dvs.length - j) → its.length = dvs.length → ∃ k, bindArgs (PySem.W.fnOf x x (defArgs st) (defBody st) (defScope st) (.ref T) kV doc pm an cdv ct) ⟨us, []⟩ = seqItems? (.ref T) >>= k ∧ k (some its.toArray) = pure (ps.zip (us ++ its.drop j)))
    (hl : dvs.length ≤ ps.length) : ∃ fd, DfOk K mg x ps.length dv ⟨N, defScope st, defBody st⟩ f fd ps :=
  ⟨_, ⟨dfb_mk l c S, PySem.W.mg_of X G a, k, fun z => absurd (by rw [z] at rd; exact (by cases rd (fun _ => f) 0 (fun _ => none); rfl)) hne, dfd_mkD l c k lT oT rT rd hne hb hl⟩⟩
theorem law_sp {P : Pg} {K : PySem.W.Frag} {cv : Nat → Value} {fn : Nat → Str} {k id : Nat} {q : List Int → Prop} (hl : ∀ ns : List Int, q ns → ∃ h, P.tbl k id [.ref 0] [.frz (ns.map .int)] = .ok (.bl true) h)
    {H : Hp} {a : Addr} {ns : List Int} (h63 : q ns) (hO : Only H) (hS : SqL K H a (ns.map V.int)) : spT ⟨K, cv, fn, none⟩ 1 (P.tbl k id) [.ref a] H (fun v _ => v = .bl true) fun _ _ _ => False := by
  obtain ⟨h', e⟩ := hl ns h63
  have fz : FzL K H a (ns.map V.int) := by
    rcases hS with (hS | hS) | hS
    · rcases hO a with z | ⟨o, xs, z⟩
      · rw [z] at hS; cases hS
      · rw [z] at hS; cases hS
    · exact .inl hS
    · exact .inr hS
  have hints : ∀ (l : List Int), RDs K (fun _ => a) 1 H (l.map D.int) (l.map V.int) := fun l => by
    induction l with
    | nil => exact .nil
    | cons i r ih => exact .cons (.int i) ih
  refine ⟨rfl, fun _ => a, [.frz (ns.map .int)], [.ref 0], ⟨fun n o hn => ?_, fun i j o u h1 h2 f1 f2 _ => ?_⟩, .cons (.ref (Nat.zero_lt_one)) .nil, ?_⟩
  · match n, hn with
    | 0, hn =>
      cases hn
      exact ⟨_, fz, hints ns⟩
    | n + 1, hn => simp at hn
  · match i, h1 with
    | 0, h1 => cases h1; cases f1
    | i + 1, h1 => simp at h1
  · rw [e]
    intro m1 H1 v g1 rh1 r
    cases r
    rfl
end Mn
namespace Mn
open PySem L2
structure XcW (K : PySem.W.Frag) (x : Str) (C f : Addr) (qual : Str) (st : Stmt) (ps : List Str) (fd : FuncData) : Prop where
  aC : PySem.W.nsIn K mainGlobals x = some (some (.ref C))
  kC : PySem.W.keepIn K (.ref C) = true
  T : OexC K C
  iC : PySem.W.findIn K (.ref C) "__init__" = some (some (.ref f))
  tI : PySem.W.typeIn K (.ref f) = some (.type "function")
  l : ∃ (oc : Value) (od an : Option Addr) (osl : Array (Option Value)) (kV doc pm cdv ct : Value), fd = PySem.W.fnOf "__init__" qual (defArgs st) (defBody st) (defScope st) .none kV doc pm an cdv ct ∧ K.lookup f = some ⟨oc, od, .func fd, osl⟩ ∧ PySem.W.codeIn K cdv qual = true
  S : FnScope ps ps (defScope st)
  bd : ∀ us : List Value, us.length = ps.length → bindArgs fd ⟨us, []⟩ = pure (ps.zip us)
theorem xcls1 {K : PySem.W.Frag} {h : Heap} {mg : Str → Option Value} {cv : Nat → Value} {x qual p : Str} {c i : Nat} {st : Stmt} {C f : Addr} {fd : FuncData} {p1 p2 p3 p4 : Pos} (X : K.In h) (G : h.Ns mainGlobals mg) (e : cv c = .ref C) (w : XcW K x C f qual st ["self", p] fd)
    (hn : PySem.W.findIn K (.ref C) (fnm i) = some none) (hb : defBody st = [.Assign [.Attribute (.Name "self" p1) (fnm i) p2] (.Name p p3) p4]) (h1 : (p == ("__debug__" : Str)) = false) (h2 : (p == ("__classdict__" : Str)) = false) : GlOk K mg cv x (.xcls c [i]) := by
  obtain ⟨aC, kC, T, iC, tI, ⟨oc, od, an, osl, kV, doc, pm, cdv, ct, rfl, l, hc⟩, S, bd⟩ := w
  refine ⟨C, e, PySem.W.mg_of X G aC, kC, T, f, _, ["self", p], iC, tI, fun P w mg base CX => ?_, .all bd⟩
  rw [hb] at l ⊢
  exact xinit1 l hc S h1 h2 T hn
end Mn
namespace Mn
open PySem PySem.Spec PyProof.Rows L2
section
variable {K : PySem.W.Frag} {x qual : Str} {params : Arguments} {body : List Stmt} {scope : Scope} {D : Addr} {doc pm cdv ct : Value} {an : Option Addr} {ps : List Str}
end
end Mn
namespace Mn
open PySem PySem.Spec PyProof.Rows L2
end Mn
namespace Mn
open PySem L2 PySem.Spec PyProof.Rows
theorem no_cx {P : Program} {w : World} {H : Hp} {s : Shared} {e : Value} {s' : Shared} (c : L2N.CX P w [] H s (fun _ _ _ => False) e s') : False := by
  obtain ⟨_, _, _, _, _, _, _, _, _, _, _, _, z⟩ := c
  exact z
theorem walk_mn {l : PySem.W.OpenLaw} {n k id : Nat} {q : Program} {loose : List Str} {XP : (Str → Option Value) → Heap → Prop} {YP : World → Heap → Prop} {d : DefRec} {K : Params → PySem.W.Frag} {x : Str} {P : Pg}
    (hn : l.most = some n) (hn2 : n ≤ sizeLine) (hdf : d.params.defaults = []) (hr : Room (2 * k + 4) callerA)
    (hY : ∀ (w : World) (h : Heap), YP w h → (K w.params).In h)
    (hl : ∀ ns : List Int, ns.length ≤ n → (∀ z ∈ ns, Builtin.Int.intBits z ≤ 1048576) → ∃ h, P.tbl (k + 1) id [.ref 0] [.frz (ns.map .int)] = .ok (.bl true) h)
    (F : ∀ (w : World) (mg : Str → Option Value) (h : Heap), (K w.params).In h → h.Ns mainGlobals mg → ∃ cv df f fd, P.defs[id]? = some df ∧ PgOk P (K w.params) mg cv ∧ DfOk (K w.params) mg d.name 1 [] df f fd [x]) :
    PySem.W.WalkO q loose XP YP l.row.toRowW d [] (fun f vs => PySem.call f vs) := by
  refine Att.attach_callB hn hdf fun w s₀ s₁ mg mb fa o pm cd doc a vs ns G Y ho hd hcd hmg hobj hints hlen hbits hg => ?_
  have KX := hY w _ Y
  obtain ⟨cv, df, f, fd, hdf, hP, hD⟩ := F w mg _ KX G.T.g
  have ef : f = fa := by
    have e := hD.at_
    rw [hmg] at e
    cases e
    rfl
  subst ef
  refine law_callD (CX := L2N.CX l.prog w) (x := x) (fd := fd) (sp := spT ⟨K w.params, cv, fun _ => .ofString "", none⟩ 1 (P.tbl (k + 1) id)) KX G.T.g G.T.b G.T.builtins G.T.nolimit G.T.nodigits hg hobj hints (Nat.le_trans hlen hn2) hr (fun base h1 hdg => ?_) (fun s u => .of_eq (hD.b0 rfl [u] rfl)) (fun H hO hS => law_sp (q := fun ns => ns.length ≤ n ∧ ∀ z ∈ ns, Builtin.Int.intBits z ≤ 1048576) (fun ns h => ?_) ⟨hlen, hbits⟩ hO hS) fun H e s' c => no_cx c
  · have e : P.tbl (k + 1) id = P.run (P.tbl k) (P.hx k) df := by
      show (match P.defs[id]? with | some df => P.run (P.tbl k) (P.hx k) df | none => fun _ _ => Mn.R.stuck) = _
      rw [hdf]
    rw [e]
    exact fn_ok hP hdg (fns_ok hP hdg k) (fnsH_ok hP hdg k) (by omega) hD.toDfB
  · exact hl ns h.1 h.2
end Mn
namespace Mn
open PySem
inductive Y where
  | non | bl (b : Bool) | int (i : Int) | str (s : Str) | tup (ys : List Y) | lst (ys : List Y) | ins (c : Nat) (fs : List (Nat × Y)) | own (n : Nat) | frz (ys : List Y) | rg (lo hi : Int)
  deriving Inhabited
inductive C where
  | lst (ys : List Y) | ins (c : Nat) (fs : List (Nat × Y))
abbrev OC := List (Nat × C)
abbrev Vw := Nat → Option O
structure Xy where
  cls : Nat
  fs : List (Nat × Y) := []
abbrev Ey := List (Option Y)
abbrev OC.ks (o : OC) : List Nat := o.map (·.1)
mutual
inductive RY (v : Vw) : D → Y → Prop
  | non : RY v .non .non
  | bl (b : Bool) : RY v (.bl b) (.bl b)
  | int (i : Int) : RY v (.int i) (.int i)
  | str (s : Str) : RY v (.str s) (.str s)
  | tup {ds : List D} {ys : List Y} : RYs v ds ys → RY v (.tup ds) (.tup ys)
  | lst {n : Nat} {ds : List D} {ys : List Y} : v n = some (.lst ds) → RYs v ds ys → RY v (.ref n) (.lst ys)
  | frz {n : Nat} {ds : List D} {ys : List Y} : v n = some (.frz ds) → RYs v ds ys → RY v (.ref n) (.frz ys)
  | ins {n : Nat} {c : Nat} {ds : List (Nat × D)} {fs : List (Nat × Y)} : v n = some (.ins c ds) → RFs v ds fs → RY v (.ref n) (.ins c fs)
  | own {n : Nat} : RY v (.ref n) (.own n)
  | rg (lo hi : Int) : RY v (.rg lo hi) (.rg lo hi)
inductive RYs (v : Vw) : List D → List Y → Prop
  | nil : RYs v [] []
  | cons {d : D} {y : Y} {ds : List D} {ys : List Y} : RY v d y → RYs v ds ys → RYs v (d :: ds) (y :: ys)
inductive RFs (v : Vw) : List (Nat × D) → List (Nat × Y) → Prop
  | nil : RFs v [] []
  | cons {n : Nat} {d : D} {y : Y} {ds : List (Nat × D)} {ys : List (Nat × Y)} : RY v d y → RFs v ds ys → RFs v ((n, d) :: ds) ((n, y) :: ys)
end
abbrev Vle (v v' : Vw) : Prop := ∀ n x, v n = some x → v' n = some x
mutual
theorem RY.mono {v v' : Vw} (l : Vle v v') : ∀ {d : D} {y : Y}, RY v d y → RY v' d y
  | _, _, .non => .non
  | _, _, .bl b => .bl b
  | _, _, .int i => .int i
  | _, _, .str s => .str s
  | _, _, .tup r => .tup (RYs.mono l r)
  | _, _, .lst e r => .lst (l _ _ e) (RYs.mono l r)
  | _, _, .frz e r => .frz (l _ _ e) (RYs.mono l r)
  | _, _, .ins e r => .ins (l _ _ e) (RFs.mono l r)
  | _, _, .own => .own
  | _, _, .rg a b => .rg a b
theorem RYs.mono {v v' : Vw} (l : Vle v v') : ∀ {ds : List D} {ys : List Y}, RYs v ds ys → RYs v' ds ys
  | _, _, .nil => .nil
  | _, _, .cons a r => .cons (RY.mono l a) (RYs.mono l r)
theorem RFs.mono {v v' : Vw} (l : Vle v v') : ∀ {ds : List (Nat × D)} {ys : List (Nat × Y)}, RFs v ds ys → RFs v' ds ys
  | _, _, .nil => .nil
  | _, _, .cons a r => .cons (RY.mono l a) (RFs.mono l r)
end
section
variable {v : Vw}
theorem RYs.length : ∀ {ds : List D} {ys : List Y}, RYs v ds ys → ds.length = ys.length
  | _, _, .nil => rfl
  | _, _, .cons _ r => congrArg Nat.succ (RYs.length r)
theorem RYs.get : ∀ {ds : List D} {ys : List Y} {i : Nat} {y : Y}, RYs v ds ys → ys[i]? = some y → ∃ d, ds[i]? = some d ∧ RY v d y
  | _, _, _, _, .nil, e => by simp at e
  | _, _, 0, _, .cons r _, e => by simp at e; subst e; exact ⟨_, rfl, r⟩
  | _, _, i + 1, d, .cons _ r, e => by
    obtain ⟨v, h1, h2⟩ := RYs.get (i := i) (y := d) r (by simpa using e)
    exact ⟨v, by simpa using h1, h2⟩
theorem RYs.append : ∀ {ds es : List D} {ys zs : List Y}, RYs v ds ys → RYs v es zs → RYs v (ds ++ es) (ys ++ zs)
  | _, _, _, _, .nil, s => s
  | _, _, _, _, .cons r t, s => .cons r (RYs.append t s)
theorem RYs.snoc {ds : List D} {ys : List Y} {d : D} {y : Y} (a : RYs v ds ys) (b : RY v d y) : RYs v (ds ++ [d]) (ys ++ [y]) := a.append (.cons b .nil)
theorem RYs.set : ∀ {ds : List D} {ys : List Y} {d : D} {y : Y} (i : Nat), RY v d y → RYs v ds ys → RYs v (ds.set i d) (ys.set i y)
  | _, _, _, _, _, _, .nil => .nil
  | _, _, _, _, 0, r, .cons _ t => .cons r t
  | _, _, _, _, i + 1, r, .cons q t => .cons q (RYs.set i r t)
theorem RYs.take {ds : List D} {ys : List Y} (n : Nat) (r : RYs v ds ys) : RYs v (ds.take n) (ys.take n) := by
  induction n generalizing ds ys with
  | zero => exact .nil
  | succ n ih => cases r with
    | nil => exact .nil
    | cons a b => exact .cons a (ih b)
theorem RYs.drop {ds : List D} {ys : List Y} (n : Nat) (r : RYs v ds ys) : RYs v (ds.drop n) (ys.drop n) := by
  induction n generalizing ds ys with
  | zero => exact r
  | succ n ih => cases r with
    | nil => exact .nil
    | cons a b => exact ih b
theorem RYs.ints : ∀ l : List Int, RYs v (l.map .int) (l.map .int)
  | [] => .nil
  | i :: l => .cons (.int i) (RYs.ints l)
end
inductive RC (v : Vw) : O → C → Prop
  | lst {ds : List D} {ys : List Y} : RYs v ds ys → RC v (.lst ds) (.lst ys)
  | ins {c : Nat} {ds : List (Nat × D)} {fs : List (Nat × Y)} : RFs v ds fs → RC v (.ins c ds) (.ins c fs)
theorem RC.mono {v v' : Vw} (l : Vle v v') {x : O} {c : C} : RC v x c → RC v' x c
  | .lst r => .lst (r.mono l)
  | .ins r => .ins (r.mono l)
structure Sat (v : Vw) (o : OC) (h : Hh) : Prop where
  vw : ∀ n x, v n = some x → h[n]? = some x
  oc : ∀ p ∈ o, ∃ x, h[p.1]? = some x ∧ v p.1 = none ∧ RC v x p.2
  nd : o.ks.Nodup
structure Fr (v : Vw) (o : OC) (h : Hh) (v' : Vw) (o' : OC) (h' : Hh) : Prop where
  mono : Vle v v'
  keep : ∀ n x, h[n]? = some x → n ∉ o.ks → h'[n]? = some x ∧ v' n = v n ∧ n ∉ o'.ks
theorem Fr.refl (v : Vw) (o : OC) (h : Hh) : Fr v o h v o h := ⟨fun _ _ z => z, fun _ _ e k => ⟨e, rfl, k⟩⟩
theorem Fr.trans {v v1 v2 : Vw} {o o1 o2 : OC} {h h1 h2 : Hh} (a : Fr v o h v1 o1 h1) (b : Fr v1 o1 h1 v2 o2 h2) : Fr v o h v2 o2 h2 :=
  ⟨fun n x z => b.mono n x (a.mono n x z), fun n x e k => let ⟨p1, p2, p3⟩ := a.keep n x e k; let ⟨q1, q2, q3⟩ := b.keep n x p1 p3; ⟨q1, q2.trans p2, q3⟩⟩
def RXy (v : Vw) (x : Xc) (y : Xy) : Prop := x.cls = y.cls ∧ RFs v x.fs y.fs
theorem RXy.mono {v v' : Vw} (l : Vle v v') {x : Xc} {y : Xy} (r : RXy v x y) : RXy v' x y := ⟨r.1, r.2.mono l⟩
end Mn
namespace Mn
open PySem
abbrev XQ := Xy → OC → Prop
def PR {α β : Type} (RA : Vw → α → β → Prop) (v : Vw) (o : OC) (h : Hh) (r : R α) (Q : β → OC → Prop) (X : XQ) : Prop := match r with
  | .ok a h' => ∃ v' o' b, Fr v o h v' o' h' ∧ Sat v' o' h' ∧ RA v' a b ∧ Q b o'
  | .exc x h' => ∃ v' o' y, Fr v o h v' o' h' ∧ Sat v' o' h' ∧ RXy v' x y ∧ X y o'
  | .stuck => False
structure REy (v : Vw) (e : Ev) (E : Ey) : Prop where
  len : e.length = E.length
  at_ : ∀ (i : Nat) (y : Y), E[i]? = some (some y) → ∃ d, e[i]? = some (some d) ∧ RY v d y
end Mn
namespace Mn
open PySem
theorem REy.mono {v v' : Vw} (l : Vle v v') {e : Ev} {E : Ey} (r : REy v e E) : REy v' e E := ⟨r.len, fun i y h => let ⟨d, a, b⟩ := r.at_ i y h; ⟨d, a, b.mono l⟩⟩
theorem REy.set {v : Vw} {e : Ev} {E : Ey} {d : D} {y : Y} (r : REy v e E) (i : Nat) (q : RY v d y) : REy v (e.set i (some d)) (E.set i (some y)) := by
  refine ⟨by rw [List.length_set, List.length_set]; exact r.len, fun j z h => ?_⟩
  by_cases hij : i = j
  · subst hij
    by_cases hl : i < E.length
    · rw [List.getElem?_set_self hl] at h
      cases h
      exact ⟨d, List.getElem?_set_self (by rw [r.len]; exact hl), q⟩
    · rw [List.getElem?_eq_none (by rw [List.length_set]; omega)] at h
      cases h
  · rw [List.getElem?_set_ne hij] at h ⊢
    exact r.at_ j z h
theorem REy.drop1 {v : Vw} {e : Ev} {E : Ey} (r : REy v e E) (i : Nat) (w : Option D) : REy v (e.set i w) (E.set i none) := by
  refine ⟨by rw [List.length_set, List.length_set]; exact r.len, fun j z h => ?_⟩
  by_cases hij : i = j
  · subst hij
    by_cases hl : i < E.length
    · rw [List.getElem?_set_self hl] at h
      cases h
    · rw [List.getElem?_eq_none (by rw [List.length_set]; omega)] at h
      cases h
  · rw [List.getElem?_set_ne hij] at h ⊢
    exact r.at_ j z h
def wipeY (E : Ey) : List Nat → Ey
  | [] => E
  | v :: vs => (wipeY E vs).set v none
theorem REy.wipe {v : Vw} {e : Ev} {E : Ey} (r : REy v e E) : ∀ vs : List Nat, REy v (wipe e vs) (wipeY E vs)
  | [] => r
  | w :: vs => (REy.wipe r vs).drop1 w none
inductive Fl where
  | nx | bk | ct | rt (y : Y)
abbrev ZQ := Fl → Ey → OC → Prop
abbrev XS := Xy → Ey → OC → Prop
def PSR (v : Vw) (o : OC) (h : Hh) (r : RS) (Z : ZQ) (X : XS) : Prop := match r with
  | .go .nx e h' => ∃ v' o' E, Fr v o h v' o' h' ∧ Sat v' o' h' ∧ REy v' e E ∧ Z .nx E o'
  | .go .bk e h' => ∃ v' o' E, Fr v o h v' o' h' ∧ Sat v' o' h' ∧ REy v' e E ∧ Z .bk E o'
  | .go .ct e h' => ∃ v' o' E, Fr v o h v' o' h' ∧ Sat v' o' h' ∧ REy v' e E ∧ Z .ct E o'
  | .go (.rt d) e h' => ∃ v' o' E y, Fr v o h v' o' h' ∧ Sat v' o' h' ∧ REy v' e E ∧ RY v' d y ∧ Z (.rt y) E o'
  | .exc x e h' => ∃ v' o' E y, Fr v o h v' o' h' ∧ Sat v' o' h' ∧ REy v' e E ∧ RXy v' x y ∧ X y E o'
  | .stuck => False
def VE (a : ED) (E : Ey) (o : OC) (Q : Y → OC → Prop) (X : XQ) : Prop := ∀ v e h, REy v e E → Sat v o h → PR RY v o h (a e h) Q X
def VT (t : TD) (E : Ey) (o : OC) (Q : Bool → OC → Prop) (X : XQ) : Prop := ∀ v e h, REy v e E → Sat v o h → PR (fun _ a b => a = b) v o h (t e h) Q X
def VA (a : AD) (E : Ey) (o : OC) (Q : List Y → OC → Prop) (X : XQ) : Prop := ∀ v e h, REy v e E → Sat v o h → PR RYs v o h (a e h) Q X
def VS (s : SD) (E : Ey) (o : OC) (Z : ZQ) (X : XS) : Prop := ∀ v e h, REy v e E → Sat v o h → PSR v o h (s e h) Z X
def VF (f : FD) (ys : List Y) (o : OC) (Q : Y → OC → Prop) (X : XQ) : Prop := ∀ v ds h, RYs v ds ys → Sat v o h → PR RY v o h (f ds h) Q X
def VO (g : D → Hh → R D) (y : Y) (o : OC) (Q : Y → OC → Prop) (X : XQ) : Prop := ∀ v d h, RY v d y → Sat v o h → PR RY v o h (g d h) Q X
def VO2 (g : D → D → Hh → R D) (x y : Y) (o : OC) (Q : Y → OC → Prop) (X : XQ) : Prop := ∀ v d d' h, RY v d x → RY v d' y → Sat v o h → PR RY v o h (g d d' h) Q X
def VM (g : D → List D → Hh → R D) (x : Y) (ys : List Y) (o : OC) (Q : Y → OC → Prop) (X : XQ) : Prop := ∀ v d ds h, RY v d x → RYs v ds ys → Sat v o h → PR RY v o h (g d ds h) Q X
abbrev noq : XQ := fun _ _ => False
abbrev nos : XS := fun _ _ _ => False
section
variable {α β γ δ : Type} {RA : Vw → α → β → Prop} {RB : Vw → γ → δ → Prop} {v v1 : Vw} {o o1 : OC} {h h1 : Hh} {X X' : XQ}
theorem PR.base {r : R α} {Q : β → OC → Prop} (f : Fr v o h v1 o1 h1) (p : PR RA v1 o1 h1 r Q X) : PR RA v o h r Q X := by
  cases r with
  | ok a h' => obtain ⟨v', o', b, f', s, ra, q⟩ := p; exact ⟨v', o', b, f.trans f', s, ra, q⟩
  | exc x h' => obtain ⟨v', o', b, f', s, ra, q⟩ := p; exact ⟨v', o', b, f.trans f', s, ra, q⟩
  | stuck => exact p
theorem PR.bind {r : R α} {f : α → Hh → R γ} {Q1 : β → OC → Prop} {Q : δ → OC → Prop} (p : PR RA v o h r Q1 X)
    (k : ∀ v1 o1 h1 a b, Fr v o h v1 o1 h1 → Sat v1 o1 h1 → RA v1 a b → Q1 b o1 → PR RB v1 o1 h1 (f a h1) Q X) : PR RB v o h (r.bind f) Q X := by
  cases r with
  | ok a h' => obtain ⟨v', o', b, f', s, ra, q⟩ := p; exact PR.base f' (k v' o' h' a b f' s ra q)
  | exc x h' => exact p
  | stuck => exact p
theorem PR.mono {r : R α} {Q Q' : β → OC → Prop} (p : PR RA v o h r Q X) (f : ∀ b o, Q b o → Q' b o) (g : ∀ y o, X y o → X' y o) : PR RA v o h r Q' X' := by
  cases r with
  | ok a h' => obtain ⟨v', o', b, f', s, ra, q⟩ := p; exact ⟨v', o', b, f', s, ra, f _ _ q⟩
  | exc x h' => obtain ⟨v', o', b, f', s, ra, q⟩ := p; exact ⟨v', o', b, f', s, ra, g _ _ q⟩
  | stuck => exact p
theorem PR.ok {a : α} {b : β} {Q : β → OC → Prop} (s : Sat v o h) (ra : RA v a b) (q : Q b o) : PR RA v o h (.ok a h) Q X := ⟨v, o, b, Fr.refl _ _ _, s, ra, q⟩
end
section
variable {E : Ey} {o : OC} {Q Q' : Y → OC → Prop} {Qb : Bool → OC → Prop} {Ql : List Y → OC → Prop} {X X' : XQ} {a b c : ED} {t u : TD} {as : AD} {f : FD}
theorem VE.mono (p : VE a E o Q X) (g : ∀ y o, Q y o → Q' y o) (k : ∀ y o, X y o → X' y o) : VE a E o Q' X' := fun v e h r s => (p v e h r s).mono g k
theorem VF.mono {ys : List Y} (p : VF f ys o Q X) (g : ∀ y o, Q y o → Q' y o) (k : ∀ y o, X y o → X' y o) : VF f ys o Q' X' := fun v e h r s => (p v e h r s).mono g k
theorem vE_c {d : D} {y : Y} (r : ∀ v, RY v d y) (q : Q y o) : VE (dC d) E o Q X := fun v e h re s => PR.ok s (r v) q
theorem vE_v {i : Nat} {y : Y} (hi : E[i]? = some (some y)) (q : Q y o) : VE (dV i) E o Q X := fun v e h re s => by
  obtain ⟨d, h1, h2⟩ := re.at_ i y hi
  unfold dV
  rw [h1]
  exact PR.ok s h2 q
theorem vE_B {op : Operator} (p : VE a E o (fun x o1 => VE b E o1 (fun y o2 => VO2 (bop op) x y o2 Q X) X) X) : VE (dB op a b) E o Q X := fun v e h re s =>
  (p v e h re s).bind fun v1 o1 h1 d y f1 s1 r1 p1 => (p1 v1 e h1 (re.mono f1.mono) s1).bind fun v2 o2 h2 d2 y2 f2 s2 r2 p2 => p2 v2 d d2 h2 (r1.mono f2.mono) r2 s2
theorem vE_Cmp {op : CmpOp} (p : VE a E o (fun x o1 => VE b E o1 (fun y o2 => VO2 (bcmp op) x y o2 Q X) X) X) : VE (dCmp op a b) E o Q X := fun v e h re s =>
  (p v e h re s).bind fun v1 o1 h1 d y f1 s1 r1 p1 => (p1 v1 e h1 (re.mono f1.mono) s1).bind fun v2 o2 h2 d2 y2 f2 s2 r2 p2 => p2 v2 d d2 h2 (r1.mono f2.mono) r2 s2
theorem vE_Ix (p : VE a E o (fun x o1 => VE b E o1 (fun y o2 => VO2 ixD x y o2 Q X) X) X) : VE (dIx a b) E o Q X := fun v e h re s =>
  (p v e h re s).bind fun v1 o1 h1 d y f1 s1 r1 p1 => (p1 v1 e h1 (re.mono f1.mono) s1).bind fun v2 o2 h2 d2 y2 f2 s2 r2 p2 => p2 v2 d d2 h2 (r1.mono f2.mono) r2 s2
theorem vE_U {op : UnaryOp} (p : VE a E o (fun x o1 => VO (uop op) x o1 Q X) X) : VE (dU op a) E o Q X := fun v e h re s =>
  (p v e h re s).bind fun v1 o1 h1 d y f1 s1 r1 p1 => p1 v1 d h1 r1 s1
theorem vA_N (q : Ql [] o) : VA aN E o Ql X := fun v e h re s => PR.ok s .nil q
theorem vA_C (p : VE a E o (fun y o1 => VA as E o1 (fun ys o2 => Ql (y :: ys) o2) X) X) : VA (aC a as) E o Ql X := fun v e h re s =>
  (p v e h re s).bind fun v1 o1 h1 d y f1 s1 r1 p1 => (p1 v1 e h1 (re.mono f1.mono) s1).bind fun v2 o2 h2 d2 y2 f2 s2 r2 p2 => PR.ok s2 (.cons (r1.mono f2.mono) r2) p2
theorem vE_Call0 (p : VA as E o (fun ys o1 => VF f ys o1 Q X) X) : VE (dCall f as []) E o Q X := fun v e h re s =>
  (p v e h re s).bind fun v1 o1 h1 d y f1 s1 r1 p1 => by rw [List.append_nil]; exact p1 v1 d h1 r1 s1
theorem vE_Tup (p : VA as E o (fun ys o1 => ys.length ≤ szl ∧ Q (.tup ys) o1) X) : VE (dTup as) E o Q X := fun v e h re s =>
  (p v e h re s).bind fun v1 o1 h1 d y f1 s1 r1 p1 => by
    rw [if_pos (by rw [r1.length]; exact p1.1)]
    exact PR.ok s1 (.tup r1) p1.2
def TB (y : Y) (o : OC) (Q : Bool → OC → Prop) : Prop := ∃ k, y = .bl k ∧ Q k o
def cnd (k : Bool) (A B : Prop) : Prop := if k = true then A else B
theorem cnd_n {A B : Prop} {k : Bool} (q : cnd k B A) : cnd (!k) A B := by cases k <;> exact q
theorem cnd_d {A B : Prop} {p : Prop} [Decidable p] (q1 : p → A) (q2 : ¬p → B) : cnd (decide p) A B := by
  by_cases z : p
  · rw [decide_eq_true z]; exact q1 z
  · rw [decide_eq_false z]; exact q2 z
theorem PR.blOf {γ δ : Type} {RB : Vw → γ → δ → Prop} {v : Vw} {h : Hh} {d : D} {y : Y} {f : Bool → Hh → R γ} {Q1 : δ → OC → Prop} {k : Bool} (r : RY v d y) (e : y = .bl k) (p : PR RB v o h (f k h) Q1 X) : PR RB v o h (blOf d h f) Q1 X := by
  subst e; cases r; exact p
theorem vE_If (p : VT t E o (fun k o1 => cnd k (VE a E o1 Q X) (VE b E o1 Q X)) X) : VE (dIf t a b) E o Q X := fun v e h re s =>
  (p v e h re s).bind fun v1 o1 h1 d y f1 s1 r1 p1 => by
    subst r1
    cases d
    · exact p1 v1 e h1 (re.mono f1.mono) s1
    · exact p1 v1 e h1 (re.mono f1.mono) s1
theorem vT_B (p : VE a E o (fun x o1 => TB x o1 Qb) X) : VT (tB a) E o Qb X := fun v e h re s =>
  (p v e h re s).bind fun v1 o1 h1 d y f1 s1 r1 ⟨k, ey, p1⟩ => PR.blOf r1 ey (PR.ok s1 rfl p1)
theorem vT_Not (p : VT t E o (fun k o1 => Qb (!k) o1) X) : VT (tNot t) E o Qb X := fun v e h re s =>
  (p v e h re s).bind fun v1 o1 h1 d y f1 s1 r1 p1 => PR.ok s1 (by rw [r1]) p1
theorem vT_And (p : VT t E o (fun k o1 => cnd k (VT u E o1 Qb X) (Qb false o1)) X) : VT (tAnd t u) E o Qb X := fun v e h re s =>
  (p v e h re s).bind fun v1 o1 h1 d y f1 s1 r1 p1 => by
    subst r1
    cases d
    · exact PR.ok s1 rfl p1
    · exact p1 v1 e h1 (re.mono f1.mono) s1
theorem vT_Or (p : VT t E o (fun k o1 => cnd k (Qb true o1) (VT u E o1 Qb X)) X) : VT (tOr t u) E o Qb X := fun v e h re s =>
  (p v e h re s).bind fun v1 o1 h1 d y f1 s1 r1 p1 => by
    subst r1
    cases d
    · exact p1 v1 e h1 (re.mono f1.mono) s1
    · exact PR.ok s1 rfl p1
theorem vT_Y (q : Qb true o) : VT tY E o Qb X := fun v e h re s => PR.ok s rfl q
inductive At : OC → Nat → C → (C → OC) → Prop
  | here {n : Nat} {c : C} {o : OC} : At ((n, c) :: o) n c (fun c' => (n, c') :: o)
  | there {o : OC} {n : Nat} {c : C} {k : C → OC} {p : Nat × C} : At o n c k → At (p :: o) n c (fun c' => p :: k c')
theorem At.mem {o : OC} {n : Nat} {c : C} {k : C → OC} (a : At o n c k) : (n, c) ∈ o := by
  induction a with
  | here => exact .head _
  | there _ ih => exact .tail _ ih
theorem At.ks {o : OC} {n : Nat} {c : C} {k : C → OC} (a : At o n c k) (c' : C) : (k c').ks = o.ks := by
  induction a with
  | here => rfl
  | there _ ih => exact congrArg (_ :: ·) ih
theorem At.mem' {o : OC} {n : Nat} {c c' : C} {k : C → OC} (a : At o n c k) (nd : o.ks.Nodup) {q : Nat × C} (h : q ∈ k c') : q = (n, c') ∨ (q ∈ o ∧ q.1 ≠ n) := by
  induction a with
  | @here n c o =>
    rcases List.mem_cons.mp h with h | h
    · exact .inl h
    · refine .inr ⟨.tail _ h, fun e => ?_⟩
      have := (List.nodup_cons.mp nd).1
      exact this (e ▸ List.mem_map_of_mem (f := (·.1)) h)
  | @there o n c k p a ih =>
    have nd' := List.nodup_cons.mp nd
    rcases List.mem_cons.mp h with h | h
    · subst h
      refine .inr ⟨.head _, fun e => nd'.1 ?_⟩
      show q.1 ∈ _
      rw [e]
      exact List.mem_map_of_mem (f := (·.1)) a.mem
    · rcases ih nd'.2 h with h | ⟨h1, h2⟩
      · exact .inl h
      · exact .inr ⟨.tail _ h1, h2⟩
inductive Ls (o : OC) : Y → List Y → Prop
  | lst (ys : List Y) : Ls o (.lst ys) ys
  | frz (ys : List Y) : Ls o (.frz ys) ys
  | own {n : Nat} {ys : List Y} {k : C → OC} : At o n (.lst ys) k → Ls o (.own n) ys
theorem Ls.get {o : OC} {y : Y} {ys : List Y} (l : Ls o y ys) {v : Vw} {h : Hh} (s : Sat v o h) {d : D} (r : RY v d y) : ∃ n ds, d = .ref n ∧ lstAt h n = some ds ∧ RYs v ds ys := by
  cases l with
  | lst ys =>
    cases r with
    | lst e q => exact ⟨_, _, rfl, by unfold lstAt; rw [s.vw _ _ e], q⟩
  | frz ys =>
    cases r with
    | frz e q => exact ⟨_, _, rfl, by unfold lstAt; rw [s.vw _ _ e], q⟩
  | own a =>
    cases r with
    | own =>
      obtain ⟨x, e, _, rc⟩ := s.oc _ a.mem
      cases rc with
      | lst q => exact ⟨_, _, rfl, by unfold lstAt; rw [e], q⟩
def TR (y : Y) (o : OC) (Q : Bool → OC → Prop) : Prop := ∀ v d h, RY v d y → Sat v o h → ∃ k, truth d h = some k ∧ Q k o
theorem tr_b {k : Bool} (q : Qb k o) : TR (.bl k) o Qb := fun v d h r s => by cases r; exact ⟨_, rfl, q⟩
theorem vT_E (p : VE a E o (fun x o1 => TR x o1 Qb) X) : VT (tE a) E o Qb X := fun v e h re s =>
  (p v e h re s).bind fun v1 o1 h1 d y f1 s1 r1 p1 => by
    obtain ⟨k, ek, q⟩ := p1 v1 d h1 r1 s1
    rw [ek]
    exact PR.ok s1 rfl q
theorem vE_AndT (p : VE a E o (fun x o1 => TR x o1 fun k o1 => cnd k (VE b E o1 Q X) (Q x o1)) X) : VE (dAndT a b) E o Q X := fun v e h re s =>
  (p v e h re s).bind fun v1 o1 h1 d y f1 s1 r1 p1 => by
    obtain ⟨k, ek, q⟩ := p1 v1 d h1 r1 s1
    rw [ek]
    cases k
    · exact PR.ok s1 r1 q
    · exact q v1 e h1 (re.mono f1.mono) s1
theorem Sat.new {v : Vw} {o : OC} {h : Hh} {x : O} (s : Sat v o h) : v h.length = none ∧ h.length ∉ o.ks := by
  refine ⟨?_, fun m => ?_⟩
  · cases e : v h.length with
    | none => rfl
    | some x => have := s.vw _ _ e; simp at this
  · obtain ⟨p, hp, e⟩ := List.mem_map.mp m
    obtain ⟨x, h1, _⟩ := s.oc p hp
    rw [e] at h1
    simp at h1
theorem app_old {h : Hh} {x y : O} {n : Nat} (e : h[n]? = some y) : (h ++ [x])[n]? = some y := by
  rw [List.getElem?_append_left (List.getElem?_eq_some_iff.mp e).1]; exact e
theorem app_new {h : Hh} {x : O} : (h ++ [x])[h.length]? = some x := by simp
theorem Sat.fz {v : Vw} {o : OC} {h : Hh} {x : O} (s : Sat v o h) : ∃ v', Fr v o h v' o (h ++ [x]) ∧ Sat v' o (h ++ [x]) ∧ v' h.length = some x := by
  obtain ⟨n1, n2⟩ := s.new (x := x)
  have vl : Vle v (fun n => if n = h.length then some x else v n) := fun n y e => by
    by_cases z : n = h.length
    · subst z; rw [n1] at e; cases e
    · simp only [if_neg z]; exact e
  refine ⟨fun n => if n = h.length then some x else v n, ⟨vl, fun n y e k => ⟨app_old e, if_neg (fun z => ?_), k⟩⟩, ⟨fun n y e => ?_, fun p hp => ?_, s.nd⟩, if_pos rfl⟩
  · subst z; simp at e
  · by_cases z : n = h.length
    · subst z; simp only [if_pos] at e; cases e; exact app_new
    · simp only [if_neg z] at e; exact app_old (s.vw _ _ e)
  · obtain ⟨y, h1, h2, h3⟩ := s.oc p hp
    refine ⟨y, app_old h1, ?_, h3.mono vl⟩
    have : p.1 ≠ h.length := fun z => by rw [z] at h1; simp at h1
    simp only [if_neg this]; exact h2
theorem Sat.nw {v : Vw} {o : OC} {h : Hh} {x : O} {c : C} (s : Sat v o h) (r : RC v x c) : Fr v o h v ((h.length, c) :: o) (h ++ [x]) ∧ Sat v ((h.length, c) :: o) (h ++ [x]) := by
  obtain ⟨n1, n2⟩ := s.new (x := x)
  refine ⟨⟨fun _ _ e => e, fun n y e k => ⟨app_old e, rfl, fun m => ?_⟩⟩, ⟨fun n y e => app_old (s.vw _ _ e), fun p hp => ?_, List.nodup_cons.mpr ⟨n2, s.nd⟩⟩⟩
  · rcases List.mem_cons.mp m with m | m
    · subst m; simp at e
    · exact k m
  · rcases List.mem_cons.mp hp with hp | hp
    · subst hp; exact ⟨x, app_new, n1, r⟩
    · obtain ⟨y, h1, h2, h3⟩ := s.oc p hp
      exact ⟨y, app_old h1, h2, h3⟩
def NL (own : Bool) (ys : List Y) (o : OC) (Q : Y → OC → Prop) : Prop := if own = true then ∀ n, n ∉ o.ks → Q (.own n) ((n, .lst ys) :: o) else Q (.lst ys) o
theorem NL.fz {ys : List Y} (q : Q (.lst ys) o) : NL false ys o Q := q
theorem NL.ow {ys : List Y} (q : ∀ n, n ∉ o.ks → Q (.own n) ((n, .lst ys) :: o)) : NL true ys o Q := q
theorem NL.out {own : Bool} {ys : List Y} (q : NL own ys o Q) {v : Vw} {h : Hh} {ds : List D} (s : Sat v o h) (r : RYs v ds ys) : PR RY v o h (.ok (.ref h.length) (h ++ [.lst ds])) Q X := by
  cases own with
  | false =>
    obtain ⟨v', f, s', e⟩ := s.fz (x := .lst ds)
    exact ⟨v', o, .lst ys, f, s', .lst e (r.mono f.mono), q⟩
  | true =>
    obtain ⟨f, s'⟩ := s.nw (RC.lst r)
    exact ⟨v, _, .own h.length, f, s', .own, q _ (s.new (x := .lst ds)).2⟩
theorem vE_Lst (own : Bool) (p : VA as E o (fun ys o1 => ys.length ≤ szl ∧ NL own ys o1 Q) X) : VE (dLst as) E o Q X := fun v e h re s =>
  (p v e h re s).bind fun v1 o1 h1 d y f1 s1 r1 p1 => by
    rw [if_pos (by rw [r1.length]; exact p1.1)]
    exact p1.2.out s1 r1
inductive Rm : OC → Nat → C → OC → Prop
  | here {n : Nat} {c : C} {o : OC} : Rm ((n, c) :: o) n c o
  | there {o o' : OC} {n : Nat} {c : C} {p : Nat × C} : Rm o n c o' → Rm (p :: o) n c (p :: o')
theorem Rm.mem {o o' : OC} {n : Nat} {c : C} (a : Rm o n c o') : (n, c) ∈ o := by
  induction a with
  | here => exact .head _
  | there _ ih => exact .tail _ ih
theorem Rm.sub {o o' : OC} {n : Nat} {c : C} (a : Rm o n c o') : o'.Sublist o := by
  induction a with
  | here => exact List.sublist_cons_self _ _
  | there _ ih => exact ih.cons₂ _
theorem Rm.ne {o o' : OC} {n : Nat} {c : C} (a : Rm o n c o') (nd : o.ks.Nodup) : n ∉ o'.ks := by
  induction a with
  | here => exact (List.nodup_cons.mp nd).1
  | @there o o' n c p a ih =>
    have nd' := List.nodup_cons.mp nd
    intro m
    rcases List.mem_cons.mp m with m | m
    · subst m; exact nd'.1 (List.mem_map_of_mem (f := (·.1)) a.mem)
    · exact ih nd'.2 m
theorem Sat.freeze {v : Vw} {o o' : OC} {h : Hh} {n : Nat} {ys : List Y} (s : Sat v o h) (a : Rm o n (.lst ys) o') : ∃ v', Fr v o h v' o' h ∧ Sat v' o' h ∧ RY v' (.ref n) (.lst ys) := by
  obtain ⟨x, h1, h2, h3⟩ := s.oc _ a.mem
  cases h3 with
  | @lst ds _ r =>
    have vl : Vle v (fun m => if m = n then some (.lst ds) else v m) := fun m y e => by
      by_cases z : m = n
      · subst z; rw [h2] at e; cases e
      · simp only [if_neg z]; exact e
    have hks : ∀ m, m ∈ o'.ks → m ∈ o.ks := fun m hm => (a.sub.map _).subset hm
    refine ⟨fun m => if m = n then some (.lst ds) else v m, ⟨vl, fun m y e k' => ⟨e, if_neg (fun z => k' ?_), fun z => k' (hks _ z)⟩⟩, ⟨fun m y e => ?_, fun p hp => ?_, ?_⟩, .lst (if_pos rfl) (r.mono vl)⟩
    · subst z; exact List.mem_map_of_mem (f := (·.1)) a.mem
    · by_cases z : m = n
      · subst z; simp only [if_pos] at e; cases e; exact h1
      · simp only [if_neg z] at e; exact s.vw _ _ e
    · obtain ⟨y, g1, g2, g3⟩ := s.oc p (a.sub.subset hp)
      have hp2 : p.1 ≠ n := fun z => a.ne s.nd (z ▸ List.mem_map_of_mem (f := (·.1)) hp)
      exact ⟨y, g1, by simp only [if_neg hp2]; exact g2, g3.mono vl⟩
    · exact s.nd.sublist (a.sub.map _)
end
end Mn
namespace Mn
open PySem
mutual
def pdY : Y → PyData
  | .non => .none
  | .bl b => .bool b
  | .int i => .int i
  | .str s => .str s
  | .tup ys => .tuple (pdYs ys)
  | .lst ys => .list (pdYs ys)
  | .frz ys => .list (pdYs ys)
  | .ins _ _ => .none
  | .own _ => .none
  | .rg _ _ => .none
def pdYs : List Y → List PyData
  | [] => []
  | y :: ys => pdY y :: pdYs ys
end
def okY : Nat → Y → Bool
  | _, .non | _, .bl _ | _, .int _ => true
  | _, .str s => PyData.strOk s
  | k + 1, .tup ys | k + 1, .lst ys | k + 1, .frz ys => ys.all (okY k)
  | _, _ => false
def eqY (x y : Y) : Bool := PyData.eqv (pdY x) (pdY y)
theorem okY_pd {v : Vw} {o : OC} {h : Hh} (s : Sat v o h) : ∀ (k : Nat) (d : D) (y : Y), RY v d y → okY k y = true → toPD h k d = some (pdY y)
  | 0, d, y, r, e => by
    cases r <;> first | rfl | (simp [okY] at e)
  | k + 1, d, y, r, e => by
    have all : ∀ (ds : List D) (ys : List Y), RYs v ds ys → ys.all (okY k) = true → allS (toPD h k) ds = some (pdYs ys) := by
      intro ds
      induction ds with
      | nil => intro ys r e; cases r; rfl
      | cons d ds ih =>
        intro ys r e
        cases r with
        | cons r1 r2 =>
          rw [List.all_cons, Bool.and_eq_true] at e
          unfold allS
          rw [okY_pd s k _ _ r1 e.1, ih _ r2 e.2]
          rfl
    cases r with
    | non => rfl
    | bl b => rfl
    | int i => rfl
    | str z => rfl
    | tup q =>
      simp only [okY] at e
      simp only [toPD, all _ _ q e, pdY, Option.map_some]
    | lst f q =>
      simp only [okY] at e
      simp only [toPD, lstAt, s.vw _ _ f, all _ _ q e, pdY, Option.map_some]
    | frz f q =>
      simp only [okY] at e
      simp only [toPD, lstAt, s.vw _ _ f, all _ _ q e, pdY, Option.map_some]
    | ins f q => simp [okY] at e
    | own => simp [okY] at e
    | rg => simp [okY] at e
theorem okY_lay : ∀ (k : Nat) (y : Y), okY k y = true → (pdY y).canLay0 = true ∧ (pdY y).depth ≤ k := by
  intro k
  induction k with
  | zero =>
    intro y e
    cases y <;> first | (simp [okY] at e; done) | exact ⟨rfl, Nat.le_refl _⟩ | skip
    rename_i z
    exact ⟨by simpa [okY, pdY, PyData.canLay0] using e, Nat.le_refl _⟩
  | succ k ih =>
    have all : ∀ ys : List Y, ys.all (okY k) = true → PyData.canLayAll0 (pdYs ys) = true ∧ PyData.depthAll (pdYs ys) ≤ k := by
      intro ys
      induction ys with
      | nil => intro _; exact ⟨rfl, Nat.zero_le _⟩
      | cons y ys ih2 =>
        intro e
        rw [List.all_cons, Bool.and_eq_true] at e
        have a := ih y e.1
        have b := ih2 e.2
        refine ⟨by simp only [pdYs, PyData.canLayAll0, a.1, b.1, Bool.and_self], ?_⟩
        simp only [pdYs, PyData.depthAll]
        omega
    intro y e
    cases y with
    | non => exact ⟨rfl, Nat.zero_le _⟩
    | bl b => exact ⟨rfl, Nat.zero_le _⟩
    | int b => exact ⟨rfl, Nat.zero_le _⟩
    | str z => exact ⟨by simpa [okY, pdY, PyData.canLay0] using e, Nat.zero_le _⟩
    | tup ys =>
      have a := all ys (by simpa only [okY] using e)
      exact ⟨by simp only [pdY, PyData.canLay0, a.1], by simp only [pdY, PyData.depth]; omega⟩
    | lst ys =>
      have a := all ys (by simpa only [okY] using e)
      exact ⟨by simp only [pdY, PyData.canLay0, a.1], by simp only [pdY, PyData.depth]; omega⟩
    | frz ys =>
      have a := all ys (by simpa only [okY] using e)
      exact ⟨by simp only [pdY, PyData.canLay0, a.1], by simp only [pdY, PyData.depth]; omega⟩
    | ins c fs => simp [okY] at e
    | own n => simp [okY] at e
    | rg => simp [okY] at e
theorem okY_shaped {y : Y} (e : okY 12 y = true) : SeqAt.shaped (pdY y) = true := by
  have a := okY_lay 12 y e
  unfold SeqAt.shaped
  rw [a.1, Bool.true_and]
  exact decide_eq_true (by omega)
theorem eqD_Y {v : Vw} {o : OC} {h : Hh} (s : Sat v o h) {d d' : D} {x y : Y} (r : RY v d x) (r' : RY v d' y) (e : okY 12 x = true) (e' : okY 12 y = true) : eqD h d d' = some (eqY x y) := by
  have a := okY_pd s 12 _ _ r e
  have b := okY_pd s 12 _ _ r' e'
  unfold eqD
  split
  · cases r; cases r'; simp only [eqY, pdY, PyData.eqv, Bool.beq_eq_decide_eq]
  · cases r; cases r'; simp only [eqY, pdY, PyData.eqv, Bool.beq_eq_decide_eq]
  · cases r; cases r'; simp only [eqY, pdY, PyData.eqv, Bool.beq_eq_decide_eq]
  · rw [a, b]
    simp only [okY_shaped e, okY_shaped e', and_self, if_true]
    rfl
section
variable {E : Ey} {o : OC} {Q Q' : Y → OC → Prop} {X X' : XQ} {i j : Int} {x y : Y} {ys zs : List Y} {s s' : Str}
theorem b_add (q : Q (.int (i + j)) o) : VO2 (bop .Add) (.int i) (.int j) o Q X := fun v d d' h r r' s => by cases r; cases r'; exact PR.ok s (.int _) q
theorem b_sub (q : Q (.int (i - j)) o) : VO2 (bop .Sub) (.int i) (.int j) o Q X := fun v d d' h r r' s => by cases r; cases r'; exact PR.ok s (.int _) q
theorem b_mul (c : cMul i j) (q : Q (.int (i * j)) o) : VO2 (bop .Mult) (.int i) (.int j) o Q X := fun v d d' h r r' s => by cases r; cases r'; show PR RY v o h (ite _ _ _) Q X; rw [if_pos c]; exact PR.ok s (.int _) q
theorem b_div (c : cDiv j) (q : Q (.int (i.fdiv j)) o) : VO2 (bop .FloorDiv) (.int i) (.int j) o Q X := fun v d d' h r r' s => by cases r; cases r'; show PR RY v o h (ite _ _ _) Q X; rw [if_pos c]; exact PR.ok s (.int _) q
theorem b_mod (c : j ≠ 0) (q : Q (.int (i.fmod j)) o) : VO2 (bop .Mod) (.int i) (.int j) o Q X := fun v d d' h r r' s => by cases r; cases r'; show PR RY v o h (ite _ _ _) Q X; rw [if_pos c]; exact PR.ok s (.int _) q
theorem b_pow (c : cPow i j) (q : Q (.int (i ^ j.toNat)) o) : VO2 (bop .Pow) (.int i) (.int j) o Q X := fun v d d' h r r' s => by cases r; cases r'; show PR RY v o h (ite _ _ _) Q X; rw [if_pos c]; exact PR.ok s (.int _) q
inductive Lm (o : OC) : Y → List Y → Prop
  | lst (ys : List Y) : Lm o (.lst ys) ys
  | own {n : Nat} {ys : List Y} {k : C → OC} : At o n (.lst ys) k → Lm o (.own n) ys
theorem Lm.get {o : OC} {y : Y} {ys : List Y} (l : Lm o y ys) {v : Vw} {h : Hh} (s : Sat v o h) {d : D} (r : RY v d y) : ∃ n ds, d = .ref n ∧ h[n]? = some (.lst ds) ∧ RYs v ds ys := by
  cases l with
  | lst ys =>
    cases r with
    | lst e q => exact ⟨_, _, rfl, s.vw _ _ e, q⟩
  | own a =>
    cases r with
    | own =>
      obtain ⟨x, e, _, rc⟩ := s.oc _ a.mem
      cases rc with
      | lst q => exact ⟨_, _, rfl, e, q⟩
theorem b_addL (own : Bool) (l : Lm o x ys) (l' : Lm o y zs) (c : ys.length + zs.length ≤ szl) (q : NL own (ys ++ zs) o Q) : VO2 (bop .Add) x y o Q X := fun v d d' h r r' s => by
  obtain ⟨n, ds, rfl, e, q1⟩ := l.get s r
  obtain ⟨m, es, rfl, e', q2⟩ := l'.get s r'
  show PR RY v o h (match h[n]?, h[m]? with | some (.lst a), some (.lst b) => _ | _, _ => _) Q X
  rw [e, e']
  simp only
  rw [if_pos (by rw [q1.length, q2.length]; exact c)]
  exact q.out s (q1.append q2)
theorem u_neg (q : Q (.int (-i)) o) : VO (uop .USub) (.int i) o Q X := fun v d h r s => by cases r; exact PR.ok s (.int _) q
theorem c_lt (q : Q (.bl (decide (i < j))) o) : VO2 (bcmp .Lt) (.int i) (.int j) o Q X := fun v d d' h r r' s => by cases r; cases r'; exact PR.ok s (.bl _) q
theorem c_gt (q : Q (.bl (decide (j < i))) o) : VO2 (bcmp .Gt) (.int i) (.int j) o Q X := fun v d d' h r r' s => by cases r; cases r'; exact PR.ok s (.bl _) q
theorem c_ge (q : Q (.bl (decide (j ≤ i))) o) : VO2 (bcmp .GtE) (.int i) (.int j) o Q X := fun v d d' h r r' s => by cases r; cases r'; exact PR.ok s (.bl _) q
theorem c_eqI (q : Q (.bl (decide (i = j))) o) : VO2 (bcmp .Eq) (.int i) (.int j) o Q X := fun v d d' h r r' s => by cases r; cases r'; exact PR.ok s (.bl _) q
theorem c_neI (q : Q (.bl (!decide (i = j))) o) : VO2 (bcmp .NotEq) (.int i) (.int j) o Q X := fun v d d' h r r' s => by cases r; cases r'; exact PR.ok s (.bl _) q
theorem c_eqS (q : Q (.bl (decide (s = s'))) o) : VO2 (bcmp .Eq) (.str s) (.str s') o Q X := fun v d d' h r r' s => by cases r; cases r'; exact PR.ok s (.bl _) q
theorem c_neS (q : Q (.bl (!decide (s = s'))) o) : VO2 (bcmp .NotEq) (.str s) (.str s') o Q X := fun v d d' h r r' s => by cases r; cases r'; exact PR.ok s (.bl _) q
theorem c_eqB {a b : Bool} (q : Q (.bl (decide (a = b))) o) : VO2 (bcmp .Eq) (.bl a) (.bl b) o Q X := fun v d d' h r r' s => by cases r; cases r'; exact PR.ok s (.bl _) q
theorem c_eq (e : okY 12 x = true) (e' : okY 12 y = true) (q : Q (.bl (eqY x y)) o) : VO2 (bcmp .Eq) x y o Q X := fun v d d' h r r' s => by
  show PR RY v o h (ofB (eqD h d d') id h) Q X
  rw [eqD_Y s r r' e e']
  exact PR.ok s (.bl _) q
def isNonY : Y → Bool
  | .non => true
  | _ => false
theorem isNon_Y {v : Vw} {d : D} (r : RY v d x) : isNon d = isNonY x := by cases r <;> rfl
theorem c_is (q : Q (.bl (isNonY x)) o) : VO2 (bcmp .Is) x .non o Q X := fun v d d' h r r' s => by
  cases r'
  have e := isNon_Y r
  cases r <;> (rw [← e] at q; exact PR.ok s (.bl _) q)
theorem c_isnt (q : Q (.bl (!isNonY x)) o) : VO2 (bcmp .IsNot) x .non o Q X := fun v d d' h r r' s => by
  cases r'
  have e := isNon_Y r
  cases r <;> (rw [← e] at q; exact PR.ok s (.bl _) q)
theorem atI_Y {v : Vw} {ds : List D} (r : RYs v ds ys) (e : L2.atI ys i = some y) : ∃ d, L2.atI ds i = some d ∧ RY v d y := by
  unfold L2.atI at e ⊢
  rw [r.length]
  cases q : L2.ixN ys.length i with
  | none => rw [q] at e; cases e
  | some j =>
    rw [q] at e
    exact r.get e
theorem x_tup (e : L2.atI ys i = some y) (q : Q y o) : VO2 ixD (.tup ys) (.int i) o Q X := fun v d d' h r r' s => by
  cases r with
  | tup rs =>
    cases r'
    obtain ⟨z, ez, rz⟩ := atI_Y rs e
    dsimp only [ixD]
    rw [ez]
    exact PR.ok s rz q
theorem x_lst (l : Ls o x ys) (e : L2.atI ys i = some y) (q : Q y o) : VO2 ixD x (.int i) o Q X := fun v d d' h r r' s => by
  obtain ⟨n, ds, rfl, e1, rs⟩ := l.get s r
  cases r'
  obtain ⟨z, ez, rz⟩ := atI_Y rs e
  dsimp only [ixD]
  rw [e1]
  simp only
  rw [ez]
  exact PR.ok s rz q
theorem ixN_nat {n k : Nat} (h : k < n) : L2.ixN n (k : Int) = some k := by
  unfold L2.ixN
  simp [h]
theorem atI_nat {k : Nat} (e : ys[k]? = some y) : L2.atI ys (k : Int) = some y := by
  unfold L2.atI
  rw [ixN_nat (List.getElem?_eq_some_iff.mp e).1]
  exact e
theorem f_len (l : Ls o x ys) (q : Q (.int ys.length) o) : VF fLen [x] o Q X := fun v ds h r s => by
  cases r with
  | cons r1 r2 =>
    cases r2
    obtain ⟨n, ds, rfl, e1, rs⟩ := l.get s r1
    show PR RY v o h (match lstAt h n with | some xs => _ | none => _) Q X
    rw [e1]
    simp only
    rw [rs.length]
    exact PR.ok s (.int _) q
theorem f_lenT (q : Q (.int ys.length) o) : VF fLen [.tup ys] o Q X := fun v ds h r s => by
  cases r with
  | cons r1 r2 =>
    cases r2
    cases r1 with
    | tup rs =>
      show PR RY v o h (.ok (.int _) h) Q X
      rw [rs.length]
      exact PR.ok s (.int _) q
theorem f_abs (q : Q (.int (if i < 0 then -i else i)) o) : VF fAbs [.int i] o Q X := fun v ds h r s => by
  cases r with | cons r1 r2 => cases r2; cases r1; exact PR.ok s (.int _) q
theorem f_int (q : Q (.int i) o) : VF fInt [.int i] o Q X := fun v ds h r s => by
  cases r with | cons r1 r2 => cases r2; cases r1; exact PR.ok s (.int _) q
theorem f_intB {b : Bool} (q : Q (.int (if b then 1 else 0)) o) : VF fInt [.bl b] o Q X := fun v ds h r s => by
  cases r with | cons r1 r2 => cases r2; cases r1; exact PR.ok s (.int _) q
theorem f_gcd (q : Q (.int ((Nat.gcd i.natAbs j.natAbs : Nat) : Int)) o) : VF fGcd [.int i, .int j] o Q X := fun v ds h r s => by
  cases r with | cons r1 r2 => cases r2 with | cons r2 r3 => cases r3; cases r1; cases r2; exact PR.ok s (.int _) q
theorem f_list (own : Bool) (l : Ls o x ys) (q : NL own ys o Q) : VF fList [x] o Q X := fun v ds h r s => by
  cases r with
  | cons r1 r2 =>
    cases r2
    obtain ⟨n, ds, rfl, e1, rs⟩ := l.get s r1
    show PR RY v o h (match lstAt h n with | some xs => _ | none => _) Q X
    rw [e1]
    exact q.out s rs
theorem bls_Y {v : Vw} : ∀ {ds : List D} {ns : List Bool}, RYs v ds (ns.map .bl) → blsOf ds = some ns
  | _, [], .nil => rfl
  | _, n :: ns, .cons (.bl _) r => by show (blsOf _).map _ = _; rw [bls_Y r]; rfl
theorem f_all {ns : List Bool} (l : Ls o x (ns.map .bl)) (q : Q (.bl (ns.all id)) o) : VF fAll [x] o Q X := fun v ds h r s => by
  cases r with
  | cons r1 r2 =>
    cases r2
    obtain ⟨n, ds, rfl, e1, rs⟩ := l.get s r1
    show PR RY v o h (match (lstAt h n).bind blsOf with | some xs => _ | none => _) Q X
    rw [e1, Option.bind_some, bls_Y rs]
    exact PR.ok s (.bl _) q
theorem f_min (q : Q (.int (if j < i then j else i)) o) : VF fMin [.int i, .int j] o Q X := fun v ds h r s => by
  cases r with | cons r1 r2 => cases r2 with | cons r2 r3 => cases r3; cases r1; cases r2; exact PR.ok s (.int _) q
def isTyY (t : Ty) : Y → Bool
  | .non => false
  | .bl _ => match t with | .int => true | .bool => true | _ => false
  | .int _ => match t with | .int => true | _ => false
  | .str _ => match t with | .str => true | _ => false
  | .tup _ => match t with | .tuple => true | _ => false
  | .lst _ => match t with | .list => true | _ => false
  | .frz _ => match t with | .list => true | _ => false
  | _ => false
def plY : Y → Bool
  | .own _ | .ins _ _ | .rg _ _ => false
  | _ => true
theorem vE_Is {t : Ty} {a : ED} (p : VE a E o (fun x o1 => plY x = true ∧ Q (.bl (isTyY t x)) o1) X) : VE (dIs t a) E o Q X := fun v e h re s =>
  (p v e h re s).bind fun v1 o1 h1 d y f1 s1 r1 ⟨pl, q⟩ => by
    have : isTy t d h1 = some (isTyY t y) := by
      cases r1 with
      | lst e r => show (lstAt _ _).map _ = _; unfold lstAt; rw [s1.vw _ _ e]; rfl
      | frz e r => show (lstAt _ _).map _ = _; unfold lstAt; rw [s1.vw _ _ e]; rfl
      | ins _ _ => cases pl
      | own => cases pl
      | rg => cases pl
      | _ => rfl
    rw [this]
    exact PR.ok s1 (.bl _) q
end
end Mn
namespace Mn
open PySem
section
variable {E E1 : Ey} {o o1 o2 : OC} {Q Q' : Y → OC → Prop} {X X' : XQ} {i j : Int} {x y z : Y} {ys zs : List Y} {s s' : Str} {n : Nat} {c c' : C} {k : C → OC}
theorem Sat.put {v : Vw} {h : Hh} {w : O} (s : Sat v o h) (a : At o n c k) (r : RC v w c') : Fr v o h v (k c') (h.set n w) ∧ Sat v (k c') (h.set n w) := by
  obtain ⟨x, e1, e2, _⟩ := s.oc _ a.mem
  have hl := (List.getElem?_eq_some_iff.mp e1).1
  have nm : ∀ m, m ∉ o.ks → n ≠ m := fun m hm z => hm (z ▸ List.mem_map_of_mem (f := (·.1)) a.mem)
  refine ⟨⟨fun _ _ z => z, fun m x e hm => ⟨?_, rfl, ?_⟩⟩, ⟨fun m x e => ?_, fun p hp => ?_, ?_⟩⟩
  · rw [List.getElem?_set_ne (nm m hm)]; exact e
  · show m ∉ (k c').ks
    rw [a.ks]; exact hm
  · have : n ≠ m := fun z => by subst z; rw [e] at e2; cases e2
    rw [List.getElem?_set_ne this]
    exact s.vw _ _ e
  · rcases a.mem' s.nd hp with e | ⟨h1, h2⟩
    · subst e
      exact ⟨w, List.getElem?_set_self hl, e2, r⟩
    · obtain ⟨u, g1, g2, g3⟩ := s.oc p h1
      exact ⟨u, by rw [List.getElem?_set_ne (fun z => h2 z.symm)]; exact g1, g2, g3⟩
  · show (k c').ks.Nodup
    rw [a.ks]; exact s.nd
theorem Sat.own {v : Vw} {h : Hh} (s : Sat v o h) (a : At o n (.lst ys) k) : ∃ ds, h[n]? = some (.lst ds) ∧ RYs v ds ys := by
  obtain ⟨x, e1, e2, r⟩ := s.oc _ a.mem
  cases r with
  | lst r => exact ⟨_, e1, r⟩
def Chk (c : D → Hh → Bool) (x : Y) (o : OC) : Prop := ∀ v d h, RY v d x → Sat v o h → c d h = true
theorem chk_L (l : Ls o x ys) : Chk chkL x o := fun v d h r s => by
  obtain ⟨n, ds, rfl, e, _⟩ := l.get s r
  show (lstAt h n).isSome = true
  rw [e]; rfl
theorem vE_M {ck : D → Hh → Bool} {f : D → List D → Hh → R D} {a : ED} {as : AD} (p : VE a E o (fun x o1 => Chk ck x o1 ∧ VA as E o1 (fun ys o2 => VM f x ys o2 Q X) X) X) : VE (dM ck f a as) E o Q X := fun v e h re s =>
  (p v e h re s).bind fun v1 o1 h1 d y f1 s1 r1 p1 => by
    rw [if_pos (p1.1 v1 d h1 r1 s1)]
    exact (p1.2 v1 e h1 (re.mono f1.mono) s1).bind fun v2 o2 h2 ds ys f2 s2 r2 p2 => p2 v2 d ds h2 (r1.mono f2.mono) r2 s2
theorem m_append' (a : At o n (.lst ys) k) (hl : ys.length < szl) (q : Q .non (k (.lst (ys ++ [y])))) : VM mAppend (.own n) [y] o Q X := fun v d ds h r rs s => by
  cases r
  cases rs with
  | cons r1 r2 =>
    cases r2
    obtain ⟨xs, e, rx⟩ := s.own a
    dsimp only [mAppend]
    rw [e]
    simp only
    rw [if_pos (by rw [rx.length]; exact hl)]
    obtain ⟨f, s'⟩ := s.put a (RC.lst (rx.snoc r1))
    exact ⟨v, _, _, f, s', .non, q⟩
variable {Z : ZQ} {W : XS}
theorem PSR.base {v v1 : Vw} {h h1 : Hh} {r : RS} (f : Fr v o h v1 o1 h1) (p : PSR v1 o1 h1 r Z W) : PSR v o h r Z W := by
  cases r with
  | go fl e h' => cases fl with
    | nx => obtain ⟨v', o', b, f', s, ra, q⟩ := p; exact ⟨v', o', b, f.trans f', s, ra, q⟩
    | bk => obtain ⟨v', o', b, f', s, ra, q⟩ := p; exact ⟨v', o', b, f.trans f', s, ra, q⟩
    | ct => obtain ⟨v', o', b, f', s, ra, q⟩ := p; exact ⟨v', o', b, f.trans f', s, ra, q⟩
    | rt d => obtain ⟨v', o', b, y, f', s, ra, q⟩ := p; exact ⟨v', o', b, y, f.trans f', s, ra, q⟩
  | exc x e h' => obtain ⟨v', o', b, y, f', s, ra, q⟩ := p; exact ⟨v', o', b, y, f.trans f', s, ra, q⟩
  | stuck => exact p
theorem PSR.mono {Z' : ZQ} {W' : XS} {v : Vw} {h : Hh} {r : RS} (p : PSR v o h r Z W) (f : ∀ l E o, Z l E o → Z' l E o) (g : ∀ l E o, W l E o → W' l E o) : PSR v o h r Z' W' := by
  cases r with
  | go fl e h' => cases fl with
    | nx => obtain ⟨v', o', b, f', s, ra, q⟩ := p; exact ⟨v', o', b, f', s, ra, f _ _ _ q⟩
    | bk => obtain ⟨v', o', b, f', s, ra, q⟩ := p; exact ⟨v', o', b, f', s, ra, f _ _ _ q⟩
    | ct => obtain ⟨v', o', b, f', s, ra, q⟩ := p; exact ⟨v', o', b, f', s, ra, f _ _ _ q⟩
    | rt d => obtain ⟨v', o', b, y, f', s, ra, ry, q⟩ := p; exact ⟨v', o', b, y, f', s, ra, ry, f _ _ _ q⟩
  | exc x e h' => obtain ⟨v', o', b, y, f', s, ra, ry, q⟩ := p; exact ⟨v', o', b, y, f', s, ra, ry, g _ _ _ q⟩
  | stuck => exact p
theorem VS.mono {Z' : ZQ} {W' : XS} {t : SD} (p : VS t E o Z W) (f : ∀ l E o, Z l E o → Z' l E o) (g : ∀ l E o, W l E o → W' l E o) : VS t E o Z' W' := fun v e h re s => (p v e h re s).mono f g
theorem PR.toS {α β : Type} {RA : Vw → α → β → Prop} {v : Vw} {h : Hh} {r : R α} {e : Ev} {f : α → Hh → RS} {Q1 : β → OC → Prop} (re : REy v e E) (p : PR RA v o h r Q1 (fun x o => W x E o))
    (k : ∀ v1 o1 h1 a b, Fr v o h v1 o1 h1 → Sat v1 o1 h1 → RA v1 a b → Q1 b o1 → PSR v1 o1 h1 (f a h1) Z W) : PSR v o h (r.toS e f) Z W := by
  cases r with
  | ok a h' => obtain ⟨v', o', b, f', s, ra, q⟩ := p; exact PSR.base f' (k v' o' h' a b f' s ra q)
  | exc x h' => obtain ⟨v', o', y, f', s, ra, q⟩ := p; exact ⟨v', o', E, y, f', s, re.mono f'.mono, ra, q⟩
  | stuck => exact p
abbrev xe (W : XS) (E : Ey) : XQ := fun x o => W x E o
theorem vs_nx (q : Z .nx E o) : VS sNx E o Z W := fun v e h re s => ⟨v, o, E, Fr.refl _ _ _, s, re, q⟩
theorem vs_ex {a : ED} (p : VE a E o (fun _ o1 => Z .nx E o1) (xe W E)) : VS (sEx a) E o Z W := fun v e h re s =>
  PR.toS re (p v e h re s) fun v1 o1 h1 d y f1 s1 r1 q => ⟨v1, o1, E, Fr.refl _ _ _, s1, re.mono f1.mono, q⟩
theorem vs_rt {a : ED} (p : VE a E o (fun y o1 => Z (.rt y) E o1) (xe W E)) : VS (sRt a) E o Z W := fun v e h re s =>
  PR.toS re (p v e h re s) fun v1 o1 h1 d y f1 s1 r1 q => ⟨v1, o1, E, y, Fr.refl _ _ _, s1, re.mono f1.mono, r1, q⟩
def sqK (t : SD) (Z : ZQ) (W : XS) : ZQ := fun f E o => match f with
  | .nx => VS t E o Z W
  | f => Z f E o
theorem sq_nx {t : SD} (q : VS t E o Z W) : sqK t Z W .nx E o := q
theorem sq_rt {t : SD} (q : Z (.rt y) E o) : sqK t Z W (.rt y) E o := q
theorem vs_sq {a b : SD} (p : VS a E o (sqK b Z W) W) : VS (sSq a b) E o Z W := fun v e h re s => by
  have p := p v e h re s
  unfold sSq
  cases q : a e h with
  | go fl e1 h1 =>
    rw [q] at p
    cases fl with
    | nx =>
      obtain ⟨v', o', b', f', s', ra, q'⟩ := p
      exact PSR.base f' (q' v' e1 h1 ra s')
    | bk => exact p
    | ct => exact p
    | rt d => exact p
  | exc x e1 h1 => rw [q] at p; exact p
  | stuck => rw [q] at p; exact p
theorem vs_if {t : TD} {a b : SD} (p : VT t E o (fun k o1 => cnd k (VS a E o1 Z W) (VS b E o1 Z W)) (xe W E)) : VS (sIf t a b) E o Z W := fun v e h re s =>
  PR.toS re (p v e h re s) fun v1 o1 h1 d y f1 s1 r1 q => by
    subst r1
    cases d
    · exact q v1 e h1 (re.mono f1.mono) s1
    · exact q v1 e h1 (re.mono f1.mono) s1
def TgY (tg : Tg) (y : Y) (E E1 : Ey) : Prop := ∀ v d e, RY v d y → REy v e E → ∃ e1, tg d e = some e1 ∧ REy v e1 E1
theorem tg_n {m : Nat} : TgY (gN m) y E (E.set m (some y)) := fun v d e r re => ⟨_, rfl, re.set m r⟩
def setY : Ey → List Nat → List Y → Ey
  | E, i :: is, y :: ys => setY (E.set i (some y)) is ys
  | E, _, _ => E
theorem tg_t {is : List Nat} (hl : ys.length = is.length) : TgY (gT is) (.tup ys) E (setY E is ys) := fun v d e r re => by
  cases r with
  | @tup ds _ rs =>
    unfold gT
    simp only
    rw [if_pos (by rw [rs.length]; exact hl)]
    refine ⟨_, rfl, ?_⟩
    clear hl
    induction is generalizing e E ds ys with
    | nil => cases rs <;> exact re
    | cons m is ih =>
      cases rs with
      | nil => exact re
      | cons r1 r2 => exact ih _ (re.set m r1) r2
theorem vs_as {a : ED} {tg : Tg} (p : VE a E o (fun y o1 => ∃ E1, TgY tg y E E1 ∧ Z .nx E1 o1) (xe W E)) : VS (sAs a (ofG tg)) E o Z W := fun v e h re s =>
  PR.toS re (p v e h re s) fun v1 o1 h1 d y f1 s1 r1 ⟨E1, t1, q⟩ => by
    obtain ⟨e1, t2, re1⟩ := t1 v1 d e r1 (re.mono f1.mono)
    unfold ofG
    rw [t2]
    exact ⟨v1, o1, E1, Fr.refl _ _ _, s1, re1, q⟩
theorem vs_asN {a : ED} {m : Nat} (p : VE a E o (fun y o1 => Z .nx (E.set m (some y)) o1) (xe W E)) : VS (sAs a (ofG (gN m))) E o Z W :=
  vs_as (p.mono (fun y o q => ⟨_, tg_n, q⟩) fun _ _ q => q)
theorem vs_asT {a : ED} {is : List Nat} (p : VE a E o (fun y o1 => ∃ ys, y = .tup ys ∧ ys.length = is.length ∧ Z .nx (setY E is ys) o1) (xe W E)) : VS (sAs a (ofG (gT is))) E o Z W :=
  vs_as (p.mono (fun y o ⟨ys, e, hl, q⟩ => by subst e; exact ⟨_, tg_t hl, q⟩) fun _ _ q => q)
def VSet (x i d : Y) (o : OC) (q : OC → Prop) : Prop := ∀ v dx di dd h, RY v dx x → RY v di i → RY v dd d → Sat v o h → ∃ v' o' h', setD dx di dd h = .ok () h' ∧ Fr v o h v' o' h' ∧ Sat v' o' h' ∧ q o'
theorem st_own {m : Nat} {q : OC → Prop} (a : At o n (.lst ys) k) (hi : L2.ixN ys.length i = some m) (p : q (k (.lst (ys.set m y)))) : VSet (.own n) (.int i) y o q := fun v dx di dd h r1 r2 r3 s => by
  cases r1; cases r2
  obtain ⟨xs, e, rx⟩ := s.own a
  obtain ⟨f, s'⟩ := s.put a (RC.lst (rx.set m r3))
  refine ⟨v, _, _, ?_, f, s', p⟩
  dsimp only [setD]
  rw [e]
  simp only
  rw [rx.length, hi]
theorem vs_asI {a b c : ED} (p : VE a E o (fun d o1 => VE b E o1 (fun x o2 => VE c E o2 (fun i o3 => VSet x i d o3 (fun o4 => Z .nx E o4)) (xe W E)) (xe W E)) (xe W E)) : VS (sAs a (gIx b c)) E o Z W := fun v e h re s =>
  PR.toS re (p v e h re s) fun v1 o1 h1 d y f1 s1 r1 p1 => by
    have p1 := p1 v1 e h1 (re.mono f1.mono) s1
    unfold gIx
    cases q1 : b e h1 with
    | stuck => rw [q1] at p1; exact p1.elim
    | exc x h2 =>
      rw [q1] at p1
      obtain ⟨v2, o2, y2, f2, s2, r2, p2⟩ := p1
      exact ⟨v2, o2, E, y2, f2, s2, (re.mono f1.mono).mono f2.mono, r2, p2⟩
    | ok d2 h2 =>
      rw [q1] at p1
      obtain ⟨v2, o2, y2, f2, s2, r2, p2⟩ := p1
      refine PSR.base f2 ?_
      have p2 := p2 v2 e h2 ((re.mono f1.mono).mono f2.mono) s2
      show PSR v2 o2 h2 (((c e h2).bind fun y h3 => _).toS e _) Z W
      cases q2 : c e h2 with
      | stuck => rw [q2] at p2; exact p2.elim
      | exc x h3 =>
        rw [q2] at p2
        obtain ⟨v3, o3, y3, f3, s3, r3, p3⟩ := p2
        exact ⟨v3, o3, E, y3, f3, s3, ((re.mono f1.mono).mono f2.mono).mono f3.mono, r3, p3⟩
      | ok d3 h3 =>
        rw [q2] at p2
        obtain ⟨v3, o3, y3, f3, s3, r3, p3⟩ := p2
        refine PSR.base f3 ?_
        obtain ⟨v4, o4, h4, e4, f4, s4, p4⟩ := p3 v3 d2 d3 d h3 (r2.mono f3.mono) r3 ((r1.mono f2.mono).mono f3.mono) s3
        show PSR v3 o3 h3 (((setD d2 d3 d h3).bind fun _ h4 => .ok e h4).toS e _) Z W
        rw [e4]
        exact ⟨v4, o4, E, f4, s4, (((re.mono f1.mono).mono f2.mono).mono f3.mono).mono f4.mono, p4⟩
theorem vs_raise {cl : Nat} (q : W ⟨cl, []⟩ E o) : VS (sRaise cl) E o Z W := fun v e h re s => ⟨v, o, E, ⟨cl, []⟩, Fr.refl _ _ _, s, re, ⟨rfl, .nil⟩, q⟩
def tryW (sub : Nat → Nat → Option Bool) (hd : Hd) (su : Xy → SD) (Z : ZQ) (W : XS) : XS := fun x E o =>
  (sub x.cls hd.cls = some true ∧ slotOk (E.map fun _ => none) hd.slot = true ∧ VS (su x) (match hd.slot with | some i => E.set i none | none => E) o (fun f E2 o2 => Z f (match hd.slot with | some i => E2.set i none | none => E2) o2) nos) ∨ (sub x.cls hd.cls = some false ∧ W x E o)
theorem vs_try {sub : Nat → Nat → Option Bool} {hd : Hd} {b : SD} {su : Xy → SD} (hsu : ∀ v x y, RXy v x y → ∀ E o Z, VS (su y) E o Z nos → ∀ e h, REy v e E → Sat v o h → PSR v o h (hd.suite x e h) Z nos) (p : VS b E o Z (tryW sub hd su Z W)) : VS (sTry sub b hd) E o Z W := fun v e h re s => by
  have p := p v e h re s
  unfold sTry
  cases q : b e h with
  | stuck => rw [q] at p; exact p
  | go fl e1 h1 =>
    rw [q] at p
    cases fl <;> exact p
  | exc x e1 h1 =>
    rw [q] at p
    obtain ⟨v1, o1, E1, y, f1, s1, re1, rx, p1⟩ := p
    refine PSR.base f1 ?_
    rcases p1 with ⟨q1, q2, q3⟩ | ⟨q1, q2⟩
    · have ec : sub x.cls hd.cls = some true := by rw [rx.1]; exact q1
      simp only [ec]
      have sl : slotOk e1 hd.slot = true := by
        unfold slotOk at q2 ⊢
        cases z : hd.slot with
        | none => rfl
        | some i => rw [z] at q2; simp only [List.length_map] at q2; simp only [re1.len]; exact q2
      rw [if_pos sl]
      have re2 : REy v1 (clr e1 hd.slot) (match hd.slot with | some i => E1.set i none | none => E1) := by
        cases z : hd.slot with
        | none => exact re1
        | some i => exact re1.drop1 i none
      have p3 := hsu v1 x y rx _ _ _ q3 _ h1 re2 s1
      have out : ∀ {v2 : Vw} {e2 : Ev} {E2 : Ey}, REy v2 e2 E2 → REy v2 (clr e2 hd.slot) (match hd.slot with | some i => E2.set i none | none => E2) := fun {v2 e2 E2} r => by
        cases z : hd.slot with
        | none => exact r
        | some i => exact r.drop1 i none
      cases w : hd.suite x (clr e1 hd.slot) h1 with
      | stuck => rw [w] at p3; exact p3.elim
      | exc _ _ _ => rw [w] at p3; obtain ⟨_, _, _, _, _, _, _, _, z⟩ := p3; exact z.elim
      | go fl e2 h2 =>
        rw [w] at p3
        cases fl with
        | nx => obtain ⟨v', o', b', f', s', ra, q'⟩ := p3; exact ⟨v', o', _, f', s', out ra, q'⟩
        | bk => obtain ⟨v', o', b', f', s', ra, q'⟩ := p3; exact ⟨v', o', _, f', s', out ra, q'⟩
        | ct => obtain ⟨v', o', b', f', s', ra, q'⟩ := p3; exact ⟨v', o', _, f', s', out ra, q'⟩
        | rt d => obtain ⟨v', o', b', y', f', s', ra, ry, q'⟩ := p3; exact ⟨v', o', _, y', f', s', out ra, ry, q'⟩
    · have ec : sub x.cls hd.cls = some false := by rw [rx.1]; exact q1
      simp only [ec]
      exact ⟨v1, o1, E1, y, Fr.refl _ _ _, s1, re1, rx, q2⟩
def SrcOk (v : Vw) (h : Hh) (ns : List Nat) (src : List (Nat × List D)) : Prop := ∀ p ∈ src, (v p.1 = some (.lst p.2) ∨ v p.1 = some (.frz p.2)) ∨ (p.1 ∈ ns ∧ h[p.1]? = some (.lst p.2))
def VI (it : ID) (E : Ey) (o : OC) (Q : List Y → List Nat → OC → Prop) (X : XQ) : Prop := ∀ v e h, REy v e E → Sat v o h → match it e h with
  | .ok sq h' => ∃ v' o' ys ns, Fr v o h v' o' h' ∧ Sat v' o' h' ∧ RYs v' sq.items ys ∧ SrcOk v' h' ns sq.src ∧ Q ys ns o'
  | .exc x h' => ∃ v' o' y, Fr v o h v' o' h' ∧ Sat v' o' h' ∧ RXy v' x y ∧ X y o'
  | .stuck => False
inductive Lw (o : OC) : Y → List Y → List Nat → Prop
  | lst (ys : List Y) : Lw o (.lst ys) ys []
  | frz (ys : List Y) : Lw o (.frz ys) ys []
  | own {n : Nat} {ys : List Y} {k : C → OC} : At o n (.lst ys) k → Lw o (.own n) ys [n]
theorem Lw.get {ns : List Nat} (l : Lw o y ys ns) {v : Vw} {h : Hh} (s : Sat v o h) {d : D} (r : RY v d y) : ∃ n ds, d = .ref n ∧ lstAt h n = some ds ∧ RYs v ds ys ∧ ((v n = some (.lst ds) ∨ v n = some (.frz ds)) ∨ (n ∈ ns ∧ h[n]? = some (.lst ds))) := by
  cases l with
  | lst ys =>
    cases r with
    | lst e q => exact ⟨_, _, rfl, by unfold lstAt; rw [s.vw _ _ e], q, .inl (.inl e)⟩
  | frz ys =>
    cases r with
    | frz e q => exact ⟨_, _, rfl, by unfold lstAt; rw [s.vw _ _ e], q, .inl (.inr e)⟩
  | own a =>
    cases r with
    | own =>
      obtain ⟨x, e, _, rc⟩ := s.oc _ a.mem
      cases rc with
      | lst q => exact ⟨_, _, rfl, by unfold lstAt; rw [e], q, .inr ⟨List.mem_singleton.mpr rfl, e⟩⟩
variable {QI : List Y → List Nat → OC → Prop} {a b : ED}
theorem VI.of {v : Vw} {h : Hh} {r : R D} {f : D → Hh → R Sq} {Q1 : Y → OC → Prop} (p : PR RY v o h r Q1 X)
    (k : ∀ v1 o1 h1 d y, Fr v o h v1 o1 h1 → Sat v1 o1 h1 → RY v1 d y → Q1 y o1 → match f d h1 with
      | .ok sq h' => ∃ v' o' ys ns, Fr v1 o1 h1 v' o' h' ∧ Sat v' o' h' ∧ RYs v' sq.items ys ∧ SrcOk v' h' ns sq.src ∧ QI ys ns o'
      | .exc x h' => ∃ v' o' y, Fr v1 o1 h1 v' o' h' ∧ Sat v' o' h' ∧ RXy v' x y ∧ X y o'
      | .stuck => False) : match r.bind f with
      | .ok sq h' => ∃ v' o' ys ns, Fr v o h v' o' h' ∧ Sat v' o' h' ∧ RYs v' sq.items ys ∧ SrcOk v' h' ns sq.src ∧ QI ys ns o'
      | .exc x h' => ∃ v' o' y, Fr v o h v' o' h' ∧ Sat v' o' h' ∧ RXy v' x y ∧ X y o'
      | .stuck => False := by
  cases r with
  | stuck => exact p
  | exc x h' => exact p
  | ok d h1 =>
    obtain ⟨v1, o1, y, f1, s1, r1, q1⟩ := p
    have k := k v1 o1 h1 d y f1 s1 r1 q1
    show match f d h1 with
      | .ok sq h' => ∃ v' o' ys ns, Fr v o h v' o' h' ∧ Sat v' o' h' ∧ RYs v' sq.items ys ∧ SrcOk v' h' ns sq.src ∧ QI ys ns o'
      | .exc x h' => ∃ v' o' y, Fr v o h v' o' h' ∧ Sat v' o' h' ∧ RXy v' x y ∧ X y o'
      | .stuck => False
    cases z : f d h1 with
    | stuck => rw [z] at k; exact k
    | exc x h' => rw [z] at k; obtain ⟨v', o', y', f', rest⟩ := k; exact ⟨v', o', y', f1.trans f', rest⟩
    | ok sq h' => rw [z] at k; obtain ⟨v', o', ys, ns, f', rest⟩ := k; exact ⟨v', o', ys, ns, f1.trans f', rest⟩
theorem vi_seq (p : VE a E o (fun y o1 => ∃ ys ns, Lw o1 y ys ns ∧ QI ys ns o1) X) : VI (iSeq a) E o QI X := fun v e h re s => by
  refine VI.of (p v e h re s) fun v1 o1 h1 d y f1 s1 r1 ⟨ys, ns, l, q⟩ => ?_
  obtain ⟨n, ds, rfl, e1, rs, so⟩ := l.get s1 r1
  simp only [e1]
  exact ⟨v1, o1, ys, ns, Fr.refl _ _ _, s1, rs, fun p hp => by rw [List.mem_singleton] at hp; subst hp; exact so, q⟩
def rngY (lo : Int) (n : Nat) : List Y := (List.range n).map fun (i : Nat) => .int (lo + (i : Int))
theorem rng_Y {v : Vw} {lo : Int} {n : Nat} : RYs v (rngD lo n) (rngY lo n) := by
  unfold rngD rngY
  generalize List.range n = l
  induction l with
  | nil => exact .nil
  | cons x l ih => exact .cons (.int _) ih
abbrev rB (i : Int) : Prop := -(2 ^ 62) ≤ i ∧ i < 2 ^ 62
theorem vi_range1 (p : VE a E o (fun y o1 => ∃ hi : Int, y = .int hi ∧ rB hi ∧ QI (rngY 0 hi.toNat) [] o1) X) : VI (iRange1 a) E o QI X := fun v e h re s => by
  refine VI.of (p v e h re s) fun v1 o1 h1 d y f1 s1 r1 ⟨hi, ey, hb, q⟩ => ?_
  subst ey
  cases r1
  simp only [rng]
  rw [if_pos ⟨by decide, by decide, hb.1, hb.2⟩]
  simp only [Int.sub_zero]
  exact ⟨v1, o1, _, [], Fr.refl _ _ _, s1, rng_Y, fun p hp => (by cases hp), q⟩
theorem vi_range2 (p : VE a E o (fun x o1 => VE b E o1 (fun y o2 => ∃ lo hi : Int, x = .int lo ∧ y = .int hi ∧ rB lo ∧ rB hi ∧ QI (rngY lo (hi - lo).toNat) [] o2) X) X) : VI (iRange2 a b) E o QI X := fun v e h re s => by
  refine VI.of (p v e h re s) fun v1 o1 h1 d y f1 s1 r1 p1 => VI.of (p1 v1 e h1 (re.mono f1.mono) s1) fun v2 o2 h2 d2 y2 f2 s2 r2 ⟨lo, hi, ex, ey, hb1, hb, q⟩ => ?_
  subst ex; subst ey
  cases r1; cases r2
  simp only [rng]
  rw [if_pos ⟨hb1.1, hb1.2, hb.1, hb.2⟩]
  exact ⟨v2, o2, _, [], Fr.refl _ _ _, s2, rng_Y, fun p hp => (by cases hp), q⟩
theorem enum_Y {v : Vw} {ds : List D} {ys : List Y} (r : RYs v ds ys) : ∀ n, RYs v ((ds.zipIdx n).map fun p => .tup [.int (p.2 : Nat), p.1]) ((ys.zipIdx n).map fun p => .tup [.int (p.2 : Nat), p.1]) := by
  intro n
  induction ds generalizing n ys with
  | nil => cases r; exact .nil
  | cons d ds ih =>
    cases r with
    | cons r1 r2 => exact .cons (.tup (.cons (.int _) (.cons r1 .nil))) (ih r2 (n + 1))
theorem vi_enum (p : VE a E o (fun y o1 => ∃ ys ns, Lw o1 y ys ns ∧ QI (ys.zipIdx.map fun p => .tup [.int (p.2 : Nat), p.1]) ns o1) X) : VI (iEnum a) E o QI X := fun v e h re s => by
  refine VI.of (p v e h re s) fun v1 o1 h1 d y f1 s1 r1 ⟨ys, ns, l, q⟩ => ?_
  obtain ⟨n, ds, rfl, e1, rs, so⟩ := l.get s1 r1
  simp only [e1]
  exact ⟨v1, o1, _, ns, Fr.refl _ _ _, s1, enum_Y rs 0, fun p hp => by rw [List.mem_singleton] at hp; subst hp; exact so, q⟩
theorem zip_Y {v : Vw} {ds es : List D} {ys zs : List Y} (r : RYs v ds ys) (r' : RYs v es zs) : RYs v (List.zipWith (fun x y => .tup [x, y]) ds es) (List.zipWith (fun x y => .tup [x, y]) ys zs) := by
  induction ds generalizing es ys zs with
  | nil => cases r; exact .nil
  | cons d ds ih =>
    cases r with
    | cons r1 r2 =>
      cases r' with
      | nil => exact .nil
      | cons q1 q2 => exact .cons (.tup (.cons r1 (.cons q1 .nil))) (ih r2 q2)
theorem vi_zip (p : VE a E o (fun x o1 => VE b E o1 (fun y o2 => ∃ ys ns zs ms, Lw o2 x ys ns ∧ Lw o2 y zs ms ∧ QI (List.zipWith (fun x y => .tup [x, y]) ys zs) (ns ++ ms) o2) X) X) : VI (iZip a b) E o QI X := fun v e h re s => by
  refine VI.of (p v e h re s) fun v1 o1 h1 d y f1 s1 r1 p1 => VI.of (p1 v1 e h1 (re.mono f1.mono) s1) fun v2 o2 h2 d2 y2 f2 s2 r2 ⟨ys, ns, zs, ms, l1, l2, q⟩ => ?_
  obtain ⟨n, ds, rfl, e1, rs, so⟩ := l1.get s2 (r1.mono f2.mono)
  obtain ⟨m, es, rfl, e2, qs, so2⟩ := l2.get s2 r2
  simp only [e1, e2]
  refine ⟨v2, o2, _, _, Fr.refl _ _ _, s2, zip_Y rs qs, fun p hp => ?_, q⟩
  rcases List.mem_cons.mp hp with hp | hp
  · subst hp; rcases so with so | ⟨so1, so2⟩
    · exact .inl so
    · exact .inr ⟨List.mem_append_left _ so1, so2⟩
  · rw [List.mem_singleton] at hp; subst hp; rcases so2 with so | ⟨so1, so2⟩
    · exact .inl so
    · exact .inr ⟨List.mem_append_right _ so1, so2⟩
inductive Rms : OC → List Nat → OC → OC → Prop
  | nil {o : OC} : Rms o [] o []
  | cons {o o1 o2 cs : OC} {n : Nat} {ys : List Y} {ns : List Nat} : Rm o n (.lst ys) o1 → Rms o1 ns o2 cs → Rms o (n :: ns) o2 ((n, .lst ys) :: cs)
theorem Rms.sub {o o2 cs : OC} {ns : List Nat} (r : Rms o ns o2 cs) : o2.Sublist o := by
  induction r with
  | nil => exact List.Sublist.refl _
  | cons a _ ih => exact ih.trans a.sub
theorem Rms.csub {o o2 cs : OC} {ns : List Nat} (r : Rms o ns o2 cs) : cs.ks = ns ∧ (∀ p ∈ cs, p ∈ o) ∧ (o.ks.Nodup → cs.ks.Nodup ∧ ∀ n ∈ cs.ks, n ∉ o2.ks) := by
  induction r with
  | nil => exact ⟨rfl, fun _ h => (by cases h), fun _ => ⟨List.nodup_nil, fun _ h => (by cases h)⟩⟩
  | @cons o o1 o2 cs n ys ns a r ih =>
    obtain ⟨h1, h2, h3⟩ := ih
    refine ⟨by show n :: cs.ks = _; rw [h1], fun p hp => ?_, fun nd => ?_⟩
    · rcases List.mem_cons.mp hp with h | h
      · exact h ▸ a.mem
      · exact a.sub.subset (h2 p h)
    · obtain ⟨g1, g2⟩ := h3 (nd.sublist (a.sub.map _))
      have an := a.ne nd
      refine ⟨List.nodup_cons.mpr ⟨fun m => an ?_, g1⟩, fun m hm => ?_⟩
      · obtain ⟨p, hp, e⟩ := List.mem_map.mp m
        have e : p.1 = n := e
        rw [← e]; exact List.mem_map_of_mem (f := (·.1)) (h2 p hp)
      · rcases List.mem_cons.mp hm with h | h
        · subst h; exact fun z => an ((r.sub.map _).subset z)
        · exact g2 m h
theorem Sat.less {v : Vw} {h : Hh} {o o2 : OC} (s : Sat v o h) (r : o2.Sublist o) : Sat v o2 h := ⟨s.vw, fun p hp => s.oc p (r.subset hp), s.nd.sublist (r.map _)⟩
theorem Fr.less {v : Vw} {h : Hh} {o o2 : OC} (r : o2.Sublist o) : Fr v o h v o2 h := ⟨fun _ _ e => e, fun n x e hn => ⟨e, rfl, fun z => hn ((r.map _).subset z)⟩⟩
theorem Rms.back {v v' : Vw} {h h' : Hh} {o o2 o3 cs : OC} {ns : List Nat} (r : Rms o ns o2 cs) (s : Sat v o h) (f : Fr v o2 h v' o3 h') (s' : Sat v' o3 h') : Fr v o h v' (cs ++ o3) h' ∧ Sat v' (cs ++ o3) h' := by
  obtain ⟨h1, h2, h3⟩ := r.csub
  obtain ⟨g1, g2⟩ := h3 s.nd
  have cell : ∀ p ∈ cs, ∃ x, h[p.1]? = some x ∧ v p.1 = none ∧ RC v x p.2 := fun p hp => s.oc p (h2 p hp)
  have kp : ∀ p ∈ cs, p.1 ∉ o2.ks := fun p hp => g2 p.1 (List.mem_map_of_mem (f := (·.1)) hp)
  refine ⟨⟨f.mono, fun n x e hn => ?_⟩, ⟨s'.vw, fun p hp => ?_, ?_⟩⟩
  · have n2 : n ∉ o2.ks := fun z => hn ((r.sub.map _).subset z)
    obtain ⟨k1, k2, k3⟩ := f.keep n x e n2
    refine ⟨k1, k2, fun z => ?_⟩
    rcases List.mem_append.mp (by simpa [OC.ks] using z : n ∈ cs.ks ++ o3.ks) with z | z
    · obtain ⟨p, hp, e⟩ := List.mem_map.mp z
      exact hn (e ▸ List.mem_map_of_mem (f := (·.1)) (h2 p hp))
    · exact k3 z
  · rcases List.mem_append.mp hp with hp | hp
    · obtain ⟨x, e1, e2, e3⟩ := cell p hp
      obtain ⟨k1, k2, k3⟩ := f.keep _ _ e1 (kp p hp)
      exact ⟨x, k1, k2.trans e2, e3.mono f.mono⟩
    · exact s'.oc p hp
  · show (cs ++ o3).ks.Nodup
    have : (cs ++ o3).ks = cs.ks ++ o3.ks := by simp [OC.ks]
    rw [this, List.nodup_append]
    refine ⟨g1, s'.nd, fun n hn m hm z => ?_⟩
    subst z
    obtain ⟨p, hp, e⟩ := List.mem_map.mp hn
    obtain ⟨x, e1, e2, e3⟩ := cell p hp
    exact (f.keep _ _ e1 (kp p hp)).2.2 (by rw [e]; exact hm)
def loopZ (I : Ey → OC → Prop) (cs : OC) (Z : ZQ) : ZQ := fun f E o => match f with
  | .nx => I E o
  | .ct => I E o
  | .bk => Z .nx E (cs ++ o)
  | .rt y => Z (.rt y) E (cs ++ o)
theorem lz_nx {I : Ey → OC → Prop} {cs : OC} (q : I E o) : loopZ I cs Z .nx E o := q
theorem lz_rt {I : Ey → OC → Prop} {cs : OC} (q : Z (.rt y) E (cs ++ o)) : loopZ I cs Z (.rt y) E o := q
def loopW (cs : OC) (W : XS) : XS := fun x E o => W x E (cs ++ o)
def ForG (tg : Tg) (body : SD) (ys : List Y) (ns : List Nat) (E : Ey) (o : OC) (Z : ZQ) (W : XS) : Prop := ∃ (o2 cs : OC) (I : List Y → Ey → OC → Prop), Rms o ns o2 cs ∧ I [] E o2 ∧
  (∀ pre y post E o, ys = pre ++ y :: post → I pre E o → ∃ E1, TgY tg y E E1 ∧ VS body E1 o (loopZ (I (pre ++ [y])) cs Z) (loopW cs W)) ∧ ∀ E o, I ys E o → Z .nx E (cs ++ o)
theorem for_run {tg : Tg} {body : SD} {src : List (Nat × List D)} {ns : List Nat} {v : Vw} {h : Hh} {o o2 cs : OC} {I : List Y → Ey → OC → Prop} {all : List Y} (s : Sat v o h) (r : Rms o ns o2 cs) (so : SrcOk v h ns src)
    (st : ∀ pre y post E o, all = pre ++ y :: post → I pre E o → ∃ E1, TgY tg y E E1 ∧ VS body E1 o (loopZ (I (pre ++ [y])) cs Z) (loopW cs W)) (en : ∀ E o, I all E o → Z .nx E (cs ++ o)) :
    ∀ (ds : List D) (pre post : List Y) (v1 : Vw) (o1 : OC) (h1 : Hh) (e : Ev) (E : Ey), all = pre ++ post → RYs v1 ds post → Fr v o2 h v1 o1 h1 → Sat v1 o1 h1 → REy v1 e E → I pre E o1 → PSR v o h (forGo src tg body ds e h1) Z W := by
  have srcok : ∀ {v1 : Vw} {o1 : OC} {h1 : Hh}, Fr v o2 h v1 o1 h1 → Sat v1 o1 h1 → srcOk src h1 := fun {v1 o1 h1} f s1 p hp => by
    rcases so p hp with (q | q) | ⟨q1, q2⟩
    · unfold lstAt; rw [s1.vw _ _ (f.mono _ _ q)]
    · unfold lstAt; rw [s1.vw _ _ (f.mono _ _ q)]
    · obtain ⟨c1, c2, c3⟩ := r.csub
      have := (f.keep _ _ q2 ((c3 s.nd).2 p.1 (c1 ▸ q1))).1
      unfold lstAt; rw [this]
  intro ds
  induction ds with
  | nil =>
    intro pre post v1 o1 h1 e E ea rs f s1 re i
    cases rs
    unfold forGo
    rw [if_pos (srcok f s1)]
    obtain ⟨f', s'⟩ := r.back s f s1
    rw [List.append_nil] at ea
    subst ea
    exact ⟨v1, _, E, f', s', re, en _ _ i⟩
  | cons d ds ih =>
    intro pre post v1 o1 h1 e E ea rs f s1 re i
    cases rs with
    | @cons _ y _ post r1 r2 =>
      unfold forGo
      rw [if_pos (srcok f s1)]
      obtain ⟨E1, t, b⟩ := st pre y post E o1 ea i
      obtain ⟨e1, te, re1⟩ := t v1 d e r1 re
      rw [te]
      simp only
      have b := b v1 e1 h1 re1 s1
      cases q : body e1 h1 with
      | stuck => rw [q] at b; exact b.elim
      | exc x e2 h2 =>
        rw [q] at b
        obtain ⟨v2, o3, E2, y2, f2, s2, re2, rx, w⟩ := b
        obtain ⟨f', s'⟩ := r.back s (f.trans f2) s2
        exact ⟨v2, _, E2, y2, f', s', re2, rx, w⟩
      | go fl e2 h2 =>
        rw [q] at b
        cases fl with
        | nx =>
          obtain ⟨v2, o3, E2, f2, s2, re2, w⟩ := b
          exact ih (pre ++ [y]) post v2 o3 h2 e2 E2 (by rw [List.append_assoc]; exact ea) (r2.mono f2.mono) (f.trans f2) s2 re2 w
        | ct =>
          obtain ⟨v2, o3, E2, f2, s2, re2, w⟩ := b
          exact ih (pre ++ [y]) post v2 o3 h2 e2 E2 (by rw [List.append_assoc]; exact ea) (r2.mono f2.mono) (f.trans f2) s2 re2 w
        | bk =>
          obtain ⟨v2, o3, E2, f2, s2, re2, w⟩ := b
          obtain ⟨f', s'⟩ := r.back s (f.trans f2) s2
          exact ⟨v2, _, E2, f', s', re2, w⟩
        | rt d2 =>
          obtain ⟨v2, o3, E2, y2, f2, s2, re2, ry, w⟩ := b
          obtain ⟨f', s'⟩ := r.back s (f.trans f2) s2
          exact ⟨v2, _, E2, y2, f', s', re2, ry, w⟩
theorem vs_for {it : ID} {tg : Tg} {body : SD} (p : VI it E o (fun ys ns o1 => ForG tg body ys ns E o1 Z W) (xe W E)) : VS (sFor it tg body) E o Z W := fun v e h re s => by
  have p := p v e h re s
  unfold sFor
  cases q : it e h with
  | stuck => rw [q] at p; exact p.elim
  | exc x h1 =>
    rw [q] at p
    obtain ⟨v1, o1, y, f1, s1, rx, w⟩ := p
    exact ⟨v1, o1, E, y, f1, s1, re.mono f1.mono, rx, w⟩
  | ok sq h1 =>
    rw [q] at p
    obtain ⟨v1, o1, ys, ns, f1, s1, rs, so, o2, cs, I, rm, i0, st, en⟩ := p
    refine PSR.base f1 ?_
    exact for_run s1 rm so st en sq.items [] ys v1 o2 h1 e E rfl rs (Fr.refl _ _ _) (s1.less rm.sub) (re.mono f1.mono) i0
end
end Mn
namespace Mn
open PySem
section
variable {E E1 : Ey} {o o1 o2 : OC} {Q Q' : Y → OC → Prop} {X X' : XQ} {i j : Int} {x y z : Y} {ys zs : List Y} {n : Nat} {c c' : C} {k : C → OC} {Z : ZQ} {W : XS}
def LcG (tg : Tg) (t : TD) (el : ED) (E0 : Ey) (ys : List Y) (ns : List Nat) (o : OC) (F : List Y → OC → Prop) : Prop := ∃ (o2 cs : OC) (I : List Y → List Y → OC → Prop), Rms o ns o2 cs ∧ I [] [] o2 ∧
  (∀ pre y post acc o, ys = pre ++ y :: post → I pre acc o → ∃ E1, TgY tg y E0 E1 ∧ VT t E1 o (fun k o1 => cnd k (VE el E1 o1 (fun z o2 => acc.length < szl ∧ I (pre ++ [y]) (acc ++ [z]) o2) noq) (I (pre ++ [y]) acc o1)) noq) ∧ ∀ acc o, I ys acc o → F acc (cs ++ o)
theorem lc_run {tg : Tg} {t : TD} {el : ED} {src : List (Nat × List D)} {ns : List Nat} {v : Vw} {h : Hh} {o o2 cs : OC} {E0 : Ey} {e0 : Ev} {I : List Y → List Y → OC → Prop} {all : List Y} {F : List Y → OC → Prop} (s : Sat v o h) (r : Rms o ns o2 cs) (so : SrcOk v h ns src) (re0 : REy v e0 E0)
    (st : ∀ pre y post acc o, all = pre ++ y :: post → I pre acc o → ∃ E1, TgY tg y E0 E1 ∧ VT t E1 o (fun k o1 => cnd k (VE el E1 o1 (fun z o2 => acc.length < szl ∧ I (pre ++ [y]) (acc ++ [z]) o2) noq) (I (pre ++ [y]) acc o1)) noq)
    (en : ∀ acc o, I all acc o → F acc (cs ++ o)) {own : Bool} {Q : Y → OC → Prop} {X : XQ} (hF : ∀ acc o, F acc o → NL own acc o Q) (p : Nat) (hpn : h[p]? = none) :
    ∀ (ds : List D) (pre post : List Y) (v1 : Vw) (o1 : OC) (h1 : Hh) (acc : List Y), all = pre ++ post → RYs v1 ds post → Fr v o2 h v1 o1 h1 → Sat v1 o1 h1 → I pre acc o1 → v1 p = none → p ∉ o1.ks → (∃ das, h1[p]? = some (.lst das) ∧ RYs v1 das acc) →
      PR RY v o h (lcGo src tg t el e0 p ds h1) Q X := by
  have srcok : ∀ {v1 : Vw} {o1 : OC} {h1 : Hh}, Fr v o2 h v1 o1 h1 → Sat v1 o1 h1 → srcOk src h1 := fun {v1 o1 h1} f s1 p hp => by
    rcases so p hp with (q | q) | ⟨q1, q2⟩
    · unfold lstAt; rw [s1.vw _ _ (f.mono _ _ q)]
    · unfold lstAt; rw [s1.vw _ _ (f.mono _ _ q)]
    · obtain ⟨c1, c2, c3⟩ := r.csub
      have := (f.keep _ _ q2 ((c3 s.nd).2 p.1 (c1 ▸ q1))).1
      unfold lstAt; rw [this]
  intro ds
  induction ds with
  | nil =>
    intro pre post v1 o1 h1 acc ea rs f s1 i vp op hp
    cases rs
    obtain ⟨das, hp1, hp2⟩ := hp
    unfold lcGo
    rw [if_pos (srcok f s1)]
    obtain ⟨f', s'⟩ := r.back s f s1
    rw [List.append_nil] at ea
    subst ea
    have q := hF _ _ (en _ _ i)
    have pcs : p ∉ (cs ++ o1).ks := fun z => by
      rcases List.mem_append.mp (by simpa [OC.ks] using z : p ∈ cs.ks ++ o1.ks) with z | z
      · obtain ⟨q, hq, e⟩ := List.mem_map.mp z
        obtain ⟨x, e1, _⟩ := s.oc q (r.csub.2.1 q hq)
        rw [e, hpn] at e1; cases e1
      · exact op z
    cases own with
    | true =>
      refine ⟨v1, (p, .lst acc) :: (cs ++ o1), .own p, ⟨f'.mono, fun n x e hn => ?_⟩, ⟨s'.vw, fun q hq => ?_, List.nodup_cons.mpr ⟨pcs, s'.nd⟩⟩, .own, q p pcs⟩
      · obtain ⟨k1, k2, k3⟩ := f'.keep n x e hn
        refine ⟨k1, k2, fun z => ?_⟩
        rcases List.mem_cons.mp z with z | z
        · subst z; rw [hpn] at e; cases e
        · exact k3 z
      · rcases List.mem_cons.mp hq with hq | hq
        · subst hq; exact ⟨_, hp1, vp, .lst hp2⟩
        · exact s'.oc q hq
    | false =>
      have vl : Vle v1 (fun m => if m = p then some (.lst das) else v1 m) := fun m y e => by
        by_cases z : m = p
        · subst z; rw [vp] at e; cases e
        · simp only [if_neg z]; exact e
      refine ⟨fun m => if m = p then some (.lst das) else v1 m, _, .lst acc, ⟨fun m y e => vl _ _ (f'.mono _ _ e), fun n x e hn => ?_⟩, ⟨fun m y e => ?_, fun q hq => ?_, s'.nd⟩, .lst (if_pos rfl) (hp2.mono vl), q⟩
      · obtain ⟨k1, k2, k3⟩ := f'.keep n x e hn
        refine ⟨k1, ?_, k3⟩
        have : n ≠ p := fun z => by subst z; rw [hpn] at e; cases e
        simp only [if_neg this]; exact k2
      · by_cases z : m = p
        · subst z; simp only [if_pos] at e; cases e; exact hp1
        · simp only [if_neg z] at e; exact s'.vw _ _ e
      · obtain ⟨y, g1, g2, g3⟩ := s'.oc q hq
        have : q.1 ≠ p := fun z => pcs (z ▸ List.mem_map_of_mem (f := (·.1)) hq)
        exact ⟨y, g1, by simp only [if_neg this]; exact g2, g3.mono vl⟩
  | cons d ds ih =>
    intro pre post v1 o1 h1 acc ea rs f s1 i vp op hp
    cases rs with
    | @cons _ y _ post r1 r2 =>
      unfold lcGo
      rw [if_pos (srcok f s1)]
      obtain ⟨E1, tt, b⟩ := st pre y post acc o1 ea i
      obtain ⟨e1, te, re1⟩ := tt v1 d e0 r1 (re0.mono f.mono)
      rw [te]
      simp only
      have b := b v1 e1 h1 re1 s1
      obtain ⟨das, hp1, hp2⟩ := hp
      cases q : t e1 h1 with
      | stuck => rw [q] at b; exact b.elim
      | exc x h2 => rw [q] at b; obtain ⟨_, _, _, _, _, _, z⟩ := b; exact z.elim
      | ok k h2 =>
        rw [q] at b
        obtain ⟨v2, o3, k', f2, s2, ek, c⟩ := b
        subst ek
        obtain ⟨g1, g2, g3⟩ := f2.keep p _ hp1 op
        cases k with
        | false => exact ih (pre ++ [y]) post v2 o3 h2 acc (by rw [List.append_assoc]; exact ea) (r2.mono f2.mono) (f.trans f2) s2 c (g2.trans vp) g3 ⟨das, g1, hp2.mono f2.mono⟩
        | true =>
          have c := c v2 e1 h2 (re1.mono f2.mono) s2
          simp only
          cases q2 : el e1 h2 with
          | stuck => rw [q2] at c; exact c.elim
          | exc x h3 => rw [q2] at c; obtain ⟨_, _, _, _, _, _, z⟩ := c; exact z.elim
          | ok d3 h3 =>
            rw [q2] at c
            obtain ⟨v3, o4, z, f3, s3, rz, hl, i3⟩ := c
            obtain ⟨g4, g5, g6⟩ := f3.keep p _ g1 g3
            simp only
            rw [g4]
            simp only
            have hr := (hp2.mono f2.mono).mono f3.mono
            rw [if_pos (by rw [hr.length]; exact hl)]
            have vp3 : v3 p = none := g5.trans (g2.trans vp)
            have hlp := (List.getElem?_eq_some_iff.mp g4).1
            have fs : Fr v3 o4 h3 v3 o4 (h3.set p (.lst (das ++ [d3]))) ∨ True := .inr trivial
            -- the new list is nobody's
            have s4 : Sat v3 o4 (h3.set p (.lst (das ++ [d3]))) := ⟨fun n x e => by
                have : p ≠ n := fun z => by subst z; rw [vp3] at e; cases e
                rw [List.getElem?_set_ne this]; exact s3.vw _ _ e, fun w hw => by
                obtain ⟨x, e1, e2, e3⟩ := s3.oc w hw
                have : p ≠ w.1 := fun z => g6 (z ▸ List.mem_map_of_mem (f := (·.1)) hw)
                exact ⟨x, by rw [List.getElem?_set_ne this]; exact e1, e2, e3⟩, s3.nd⟩
            have f4 : Fr v o2 h v3 o4 (h3.set p (.lst (das ++ [d3]))) := by
              have f4 := (f.trans f2).trans f3
              refine ⟨f4.mono, fun n x e hn => ?_⟩
              obtain ⟨k1, k2, k3⟩ := f4.keep n x e hn
              have : p ≠ n := fun z => by subst z; rw [hpn] at e; cases e
              exact ⟨by rw [List.getElem?_set_ne this]; exact k1, k2, k3⟩
            exact ih (pre ++ [y]) post v3 o4 _ (acc ++ [z]) (by rw [List.append_assoc]; exact ea) ((r2.mono f2.mono).mono f3.mono) f4 s4 i3 vp3 g6 ⟨_, List.getElem?_set_self hlp, hr.snoc rz⟩
theorem vE_Lc (own : Bool) {it : ID} {tg : Tg} {t : TD} {el : ED} {vs : List Nat} (p : VI it E o (fun ys ns o1 => LcG tg t el (wipeY E vs) ys ns o1 fun acc o => NL own acc o Q) X) : VE (dLc it tg t el vs) E o Q X := fun v e h re s => by
  have p := p v e h re s
  unfold dLc
  cases q : it e h with
  | stuck => rw [q] at p; exact p.elim
  | exc x h1 => rw [q] at p; exact p
  | ok sq h1 =>
    rw [q] at p
    obtain ⟨v1, o1, ys, ns, f1, s1, rs, so, o2, cs, I, rm, i0, st, en⟩ := p
    refine PR.base f1 ?_
    obtain ⟨n1, n2⟩ := s1.new (x := .lst [])
    have s2 : Sat v1 o2 (h1 ++ [.lst []]) := ⟨fun n y e => app_old (s1.vw _ _ e), fun p hp => by
      obtain ⟨y, e1, e2, e3⟩ := s1.oc p (rm.sub.subset hp)
      exact ⟨y, app_old e1, e2, e3⟩, s1.nd.sublist (rm.sub.map _)⟩
    have f2 : Fr v1 o2 h1 v1 o2 (h1 ++ [.lst []]) := ⟨fun _ _ e => e, fun n x e hn => ⟨app_old e, rfl, hn⟩⟩
    exact lc_run s1 rm so ((re.mono f1.mono).wipe vs) st en (fun _ _ q => q) h1.length (by simp) sq.items [] ys v1 o2 _ [] rfl rs f2 s2 i0 n1 (fun z => n2 ((rm.sub.map _).subset z)) ⟨[], app_new, .nil⟩
def Ret (y : Y) (o : OC) (Q : Y → OC → Prop) : Prop := ∀ v h d, RY v d y → Sat v o h → ∃ v' o' y', Fr v o h v' o' h ∧ Sat v' o' h ∧ RY v' d y' ∧ Q y' o'
theorem ret_v (r : o1.Sublist o) (q : Q y o1) : Ret y o Q := fun v h d ry s => ⟨v, o1, y, Fr.less r, s.less r, ry, q⟩
theorem ret_0 (q : Q y []) : Ret y o Q := ret_v (List.nil_sublist _) q
def fnK (Q : Y → OC → Prop) : ZQ := fun f _ o => match f with
  | .nx => Ret .non o Q
  | .rt y => Ret y o Q
  | _ => False
theorem fn_nx (q : Ret .non o Q) : fnK Q .nx E o := q
theorem fn_rt (q : Ret y o Q) : fnK Q (.rt y) E o := q
def startY (n : Nat) (ys : List Y) : Ey := ys.map some ++ List.replicate (n - ys.length) none
theorem start_Y {v : Vw} {ds : List D} (r : RYs v ds ys) : REy v (ds.map some ++ List.replicate (n - ds.length) none) (startY n ys) := by
  have hl := r.length
  refine ⟨by unfold startY; simp [hl], fun i y e => ?_⟩
  unfold startY at e
  by_cases hi : i < ys.length
  · rw [List.getElem?_append_left (by rw [List.length_map]; exact hi), List.getElem?_map] at e
    cases q : ys[i]? with
    | none => rw [q] at e; cases e
    | some d' =>
      rw [q] at e
      cases e
      obtain ⟨d, e1, r1⟩ := r.get q
      exact ⟨d, by rw [List.getElem?_append_left (by rw [List.length_map, hl]; exact hi), List.getElem?_map, e1]; rfl, r1⟩
  · rw [List.getElem?_append_right (by rw [List.length_map]; omega), List.getElem?_replicate] at e
    split at e <;> cases e
def RetX (x : Xy) (o : OC) (X : XQ) : Prop := ∃ o1, o1.Sublist o ∧ X x o1
theorem retx {x : Xy} (r : o1.Sublist o) (q : X x o1) : RetX x o X := ⟨o1, r, q⟩
theorem vf_run {b : SD} (p : VS b (startY n ys) o (fnK Q) (fun x _ o => RetX x o X)) : VF (fnRun b n) ys o Q X := fun v ds h r s => by
  have p := p v _ h (start_Y r) s
  unfold fnRun
  cases z : b (ds.map some ++ List.replicate (n - ds.length) none) h with
  | stuck => rw [z] at p; exact p
  | exc x e1 h1 =>
    rw [z] at p
    obtain ⟨v1, o1, E1, y, f1, s1, re1, rx, o3, r3, w⟩ := p
    exact ⟨v1, o3, y, f1.trans (Fr.less r3), s1.less r3, rx, w⟩
  | go fl e1 h1 =>
    rw [z] at p
    cases fl with
    | nx =>
      obtain ⟨v1, o1, E1, f1, s1, re1, q⟩ := p
      obtain ⟨v2, o2, y2, f2, s2, r2, q2⟩ := q v1 h1 .non .non s1
      exact ⟨v2, o2, y2, f1.trans f2, s2, r2, q2⟩
    | rt d =>
      obtain ⟨v1, o1, E1, y, f1, s1, re1, ry, q⟩ := p
      obtain ⟨v2, o2, y2, f2, s2, r2, q2⟩ := q v1 h1 d ry s1
      exact ⟨v2, o2, y2, f1.trans f2, s2, r2, q2⟩
    | bk => obtain ⟨_, _, _, _, _, _, q⟩ := p; exact q.elim
    | ct => obtain ⟨_, _, _, _, _, _, q⟩ := p; exact q.elim
def VP (f : FD) (ys : List Y) (r : Y) : Prop := VF f ys [] (fun y o => y = r ∧ o = []) noq
theorem vp_run {b : SD} {r : Y} (p : VS b (startY n ys) [] (fnK fun y o => y = r ∧ o = []) (fun x _ o => RetX x o noq)) : VP (fnRun b n) ys r := vf_run p
theorem Sat.fr {v v' : Vw} {h h' : Hh} {o0 o1 : OC} (s : Sat v o h) (sub : o0.Sublist o) (e0 : o0 = []) (f : Fr v o0 h v' o1 h') (s' : Sat v' o1 h') : Fr v o h v' (o1 ++ o) h' ∧ Sat v' (o1 ++ o) h' := by
  subst e0
  have kp : ∀ p ∈ o, ∃ x, h'[p.1]? = some x ∧ v' p.1 = none ∧ RC v' x p.2 ∧ p.1 ∉ o1.ks := fun p hp => by
    obtain ⟨x, e1, e2, e3⟩ := s.oc p hp
    obtain ⟨k1, k2, k3⟩ := f.keep _ _ e1 (by simp [OC.ks])
    exact ⟨x, k1, k2.trans e2, e3.mono f.mono, k3⟩
  refine ⟨⟨f.mono, fun n x e hn => ?_⟩, ⟨s'.vw, fun p hp => ?_, ?_⟩⟩
  · obtain ⟨k1, k2, k3⟩ := f.keep n x e (by simp [OC.ks])
    refine ⟨k1, k2, fun z => ?_⟩
    rcases List.mem_append.mp (by simpa [OC.ks] using z : n ∈ o1.ks ++ o.ks) with z | z
    · exact k3 z
    · exact hn z
  · rcases List.mem_append.mp hp with hp | hp
    · exact s'.oc p hp
    · obtain ⟨x, k1, k2, k3, _⟩ := kp p hp
      exact ⟨x, k1, k2, k3⟩
  · have : (o1 ++ o).ks = o1.ks ++ o.ks := by simp [OC.ks]
    show (o1 ++ o).ks.Nodup
    rw [this, List.nodup_append]
    refine ⟨s'.nd, s.nd, fun n hn m hm z => ?_⟩
    subst z
    obtain ⟨p, hp, e⟩ := List.mem_map.mp hm
    exact (kp p hp).choose_spec.2.2.2 (by rw [e]; exact hn)
theorem vc_fr {f : FD} {Q0 : Y → OC → Prop} {X0 : XQ} (p : VF f ys [] Q0 X0) (g : ∀ y o1, Q0 y o1 → Q y (o1 ++ o)) (gx : ∀ y o1, X0 y o1 → X y (o1 ++ o)) : VF f ys o Q X := fun v ds h r s => by
  have p := p v ds h r (s.less (List.nil_sublist _))
  cases z : f ds h with
  | stuck => rw [z] at p; exact p.elim
  | ok d h' =>
    rw [z] at p
    obtain ⟨v', o1, y, f1, s1, r1, q⟩ := p
    obtain ⟨f2, s2⟩ := s.fr (List.nil_sublist _) rfl f1 s1
    exact ⟨v', _, y, f2, s2, r1, g _ _ q⟩
  | exc x h' =>
    rw [z] at p
    obtain ⟨v', o1, y, f1, s1, r1, q⟩ := p
    obtain ⟨f2, s2⟩ := s.fr (List.nil_sublist _) rfl f1 s1
    exact ⟨v', _, y, f2, s2, r1, gx _ _ q⟩
theorem vc_p {f : FD} {r : Y} (p : VP f ys r) (q : Q r o) : VF f ys o Q X := vc_fr p (fun y o1 ⟨e1, e2⟩ => by subst e1; subst e2; exact q) fun _ _ z => z.elim
theorem vc_own {f : FD} {Q0 : Y → OC → Prop} {X0 : XQ} (a : At o n c k) (p : VF f ys [(n, c)] Q0 X0) (g : ∀ y o1, Q0 y o1 → ∃ c', o1 = [(n, c')] ∧ Q y (k c')) (gx : ∀ y o1, X0 y o1 → ∃ c', o1 = [(n, c')] ∧ X y (k c')) : VF f ys o Q X := fun v ds h r s => by
  have s0 : Sat v [(n, c)] h := ⟨s.vw, fun p hp => by rw [List.mem_singleton] at hp; subst hp; exact s.oc _ a.mem, by simp [OC.ks]⟩
  have p := p v ds h r s0
  have key : ∀ {v' : Vw} {h' : Hh} {c' : C}, Fr v [(n, c)] h v' [(n, c')] h' → Sat v' [(n, c')] h' → Fr v o h v' (k c') h' ∧ Sat v' (k c') h' := fun {v' h' c'} f1 s1 => by
    have nk : n ∈ o.ks := List.mem_map_of_mem (f := (·.1)) a.mem
    refine ⟨⟨f1.mono, fun m x e hm => ?_⟩, ⟨s1.vw, fun p hp => ?_, by show (k c').ks.Nodup; rw [a.ks]; exact s.nd⟩⟩
    · obtain ⟨k1, k2, k3⟩ := f1.keep m x e (by simp only [OC.ks, List.map_cons, List.map_nil, List.mem_singleton]; exact fun z => hm (z ▸ nk))
      exact ⟨k1, k2, by show m ∉ (k c').ks; rw [a.ks]; exact hm⟩
    · rcases a.mem' s.nd hp with hp | ⟨hp1, hp2⟩
      · subst hp; exact s1.oc _ (.head _)
      · obtain ⟨x, e1, e2, e3⟩ := s.oc p hp1
        obtain ⟨k1, k2, k3⟩ := f1.keep _ _ e1 (by simp only [OC.ks, List.map_cons, List.map_nil, List.mem_singleton]; exact hp2)
        exact ⟨x, k1, k2.trans e2, e3.mono f1.mono⟩
  cases z : f ds h with
  | stuck => rw [z] at p; exact p.elim
  | ok d h' =>
    rw [z] at p
    obtain ⟨v', o1, y, f1, s1, r1, q⟩ := p
    obtain ⟨c', rfl, q2⟩ := g _ _ q
    obtain ⟨f2, s2⟩ := key f1 s1
    exact ⟨v', _, y, f2, s2, r1, q2⟩
  | exc x h' =>
    rw [z] at p
    obtain ⟨v', o1, y, f1, s1, r1, q⟩ := p
    obtain ⟨c', rfl, q2⟩ := gx _ _ q
    obtain ⟨f2, s2⟩ := key f1 s1
    exact ⟨v', _, y, f2, s2, r1, q2⟩
inductive Fz (n : Nat) (w : Y) : Ey → Ey → Prop
  | nil : Fz n w [] []
  | chg {E E' : Ey} : Fz n w E E' → Fz n w (some (.own n) :: E) (some w :: E')
  | keep {a : Option Y} {E E' : Ey} : Fz n w E E' → Fz n w (a :: E) (a :: E')
theorem Fz.re {E' : Ey} {w : Y} (z : Fz n w E E') {v : Vw} (hr : RY v (.ref n) w) : ∀ {e : Ev}, REy v e E → REy v e E' := by
  induction z with
  | nil => exact fun r => r
  | @chg E E' _ ih =>
    intro e r
    match e, r with
    | [], r => exact absurd r.len (by simp)
    | a :: e, r =>
      have r' : REy v e E := ⟨by simpa using r.len, fun i y h => r.at_ (i + 1) y h⟩
      have r2 := ih r'
      refine ⟨by simpa using r2.len, fun i y h => ?_⟩
      cases i with
      | zero =>
        obtain ⟨d, h1, h2⟩ := r.at_ 0 (.own n) rfl
        cases h2
        cases h
        exact ⟨_, h1, hr⟩
      | succ i => exact r2.at_ i y h
  | @keep a0 E E' _ ih =>
    intro e r
    match e, r with
    | [], r => exact absurd r.len (by simp)
    | a :: e, r =>
      have r' : REy v e E := ⟨by simpa using r.len, fun i y h => r.at_ (i + 1) y h⟩
      have r2 := ih r'
      refine ⟨by simpa using r2.len, fun i y h => ?_⟩
      cases i with
      | zero => exact r.at_ 0 y h
      | succ i => exact r2.at_ i y h
theorem vs_freeze {b : SD} {E' : Ey} (a : Rm o n (.lst ys) o1) (z : Fz n (.lst ys) E E') (p : VS b E' o1 Z W) : VS b E o Z W := fun v e h re s => by
  obtain ⟨v', f, s', r⟩ := s.freeze a
  exact PSR.base f (p v' e h (z.re r (re.mono f.mono)) s')
theorem for_map {α : Type} {tg : Tg} {body : SD} {xs : List α} {enc : α → Y} (I : List α → Ey → OC → Prop) (i0 : I [] E o)
    (st : ∀ pre x post E o, xs = pre ++ x :: post → I pre E o → ∃ E1, TgY tg (enc x) E E1 ∧ VS body E1 o (loopZ (I (pre ++ [x])) [] Z) W) (en : ∀ E o, I xs E o → Z .nx E o) : ForG tg body (xs.map enc) [] E o Z W :=
  ⟨o, [], fun ys E o => ∃ pre, ys = pre.map enc ∧ I pre E o ∧ ∃ post, xs = pre ++ post, .nil, ⟨[], rfl, i0, xs, rfl⟩, fun pre y post E o e ⟨pre', e1, i, post', e2⟩ => by
    subst e1
    rw [e2, List.map_append] at e
    have e := List.append_cancel_left e
    cases post' with
    | nil => cases e
    | cons x post' =>
      cases e
      obtain ⟨E1, t, b⟩ := st pre' x post' E o e2 i
      refine ⟨E1, t, b.mono (fun l E o q => ?_) fun _ _ _ q => q⟩
      cases l with
      | nx => exact ⟨pre' ++ [x], by simp, q, post', by rw [e2]; simp⟩
      | ct => exact ⟨pre' ++ [x], by simp, q, post', by rw [e2]; simp⟩
      | bk => exact q
      | rt y => exact q, fun E o ⟨pre, e1, i, post, e2⟩ => by
    have : post = [] := by
      have := congrArg List.length e1
      rw [e2] at this
      simp at this
      exact this
    subst this
    rw [List.append_nil] at e2
    subst e2
    exact en E o i⟩
theorem for_rng {tg : Tg} {body : SD} {lo : Int} {m : Nat} (I : Nat → Ey → OC → Prop) (i0 : I 0 E o)
    (st : ∀ t E o, t < m → I t E o → ∃ E1, TgY tg (.int (lo + t)) E E1 ∧ VS body E1 o (loopZ (I (t + 1)) [] Z) W) (en : ∀ E o, I m E o → Z .nx E o) : ForG tg body (rngY lo m) [] E o Z W := by
  refine for_map (fun pre E o => pre = List.range pre.length ∧ I pre.length E o) ⟨rfl, i0⟩ (fun pre x post E o e ⟨h1, i⟩ => ?_) fun E o ⟨h1, i⟩ => ?_
  · have hl := congrArg List.length e
    simp at hl
    have hx : x = pre.length := by
      have h2 : (List.range m)[pre.length]? = some x := by rw [e]; simp
      rw [List.getElem?_range (by omega)] at h2
      exact (Option.some.inj h2).symm
    subst hx
    obtain ⟨E1, t, b⟩ := st pre.length E o (by omega) i
    have hp : pre ++ [pre.length] = List.range (pre ++ [pre.length]).length := by
      rw [List.length_append, List.length_singleton, List.range_succ, ← h1]
    refine ⟨E1, t, b.mono (fun l E o q => ?_) fun _ _ _ q => q⟩
    cases l with
    | nx => exact ⟨hp, by rw [List.length_append, List.length_singleton]; exact q⟩
    | ct => exact ⟨hp, by rw [List.length_append, List.length_singleton]; exact q⟩
    | bk => exact q
    | rt y => exact q
  · rw [List.length_range] at i
    exact en E o i
theorem lc_map {α : Type} {tg : Tg} {el : ED} {xs : List α} {enc f : α → Y} {E0 : Ey} {F : List Y → OC → Prop} (hl : xs.length ≤ szl)
    (st : ∀ x ∈ xs, ∃ E1, TgY tg (enc x) E0 E1 ∧ VE el E1 o (fun z o2 => z = f x ∧ o2 = o) noq) (en : F (xs.map f) o) : LcG tg tY el E0 (xs.map enc) [] o F :=
  ⟨o, [], fun pre acc o' => o' = o ∧ ∃ p post, xs = p ++ post ∧ pre = p.map enc ∧ acc = p.map f, .nil, ⟨rfl, [], xs, rfl, rfl, rfl⟩, fun pre y post acc o' e ⟨eo, p, q, e1, e2, e3⟩ => by
    subst eo; subst e2; subst e3
    rw [e1, List.map_append] at e
    have e := List.append_cancel_left e
    cases q with
    | nil => cases e
    | cons x q =>
      cases e
      obtain ⟨E1, t, b⟩ := st x (by rw [e1]; simp)
      refine ⟨E1, t, vT_Y (b.mono (fun z o2 ⟨h1, h2⟩ => ?_) fun _ _ q => q)⟩
      subst h1; subst h2
      refine ⟨?_, rfl, p ++ [x], q, by rw [e1]; simp, by simp, by simp⟩
      have := congrArg List.length e1
      simp at this
      rw [List.length_map]
      omega, fun acc o' ⟨eo, p, q, e1, e2, e3⟩ => by
    subst eo
    have : q = [] := by
      have := congrArg List.length e2
      rw [e1] at this
      simp at this
      exact this
    subst this
    rw [List.append_nil] at e1
    subst e1
    subst e3
    exact en⟩
theorem lc_filter {α : Type} {tg : Tg} {t : TD} {el : ED} {xs : List α} {enc f : α → Y} {p : α → Bool} {E0 : Ey} {F : List Y → OC → Prop} (hl : xs.length ≤ szl)
    (st : ∀ x ∈ xs, ∃ E1, TgY tg (enc x) E0 E1 ∧ VT t E1 o (fun k o2 => k = p x ∧ o2 = o ∧ (p x = true → VE el E1 o (fun z o2 => z = f x ∧ o2 = o) noq)) noq) (en : F ((xs.filter p).map f) o) : LcG tg t el E0 (xs.map enc) [] o F :=
  ⟨o, [], fun pre acc o' => o' = o ∧ ∃ pr post, xs = pr ++ post ∧ pre = pr.map enc ∧ acc = (pr.filter p).map f, .nil, ⟨rfl, [], xs, rfl, rfl, rfl⟩, fun pre y post acc o' e ⟨eo, pr, q, e1, e2, e3⟩ => by
    subst eo; subst e2; subst e3
    rw [e1, List.map_append] at e
    have e := List.append_cancel_left e
    cases q with
    | nil => cases e
    | cons x q =>
      cases e
      obtain ⟨E1, t', b⟩ := st x (by rw [e1]; simp)
      refine ⟨E1, t', fun v e h re s => (b v e h re s).mono (fun k o2 ⟨h1, h2, h3⟩ => ?_) fun _ _ q => q⟩
      subst h1; subst h2
      have el : (pr.filter p).length ≤ pr.length := List.length_filter_le _ _
      have := congrArg List.length e1
      simp at this
      cases hp : p x with
      | true =>
        refine (h3 hp).mono (fun z o2 ⟨h1, h2⟩ => ?_) fun _ _ q => q
        subst h1; subst h2
        exact ⟨by rw [List.length_map]; omega, rfl, pr ++ [x], q, by rw [e1]; simp, by simp, by simp [hp]⟩
      | false => exact ⟨rfl, pr ++ [x], q, by rw [e1]; simp, by simp, by simp [hp]⟩, fun acc o' ⟨eo, pr, q, e1, e2, e3⟩ => by
    subst eo
    have : q = [] := by
      have := congrArg List.length e2
      rw [e1] at this
      simp at this
      exact this
    subst this
    rw [List.append_nil] at e1
    subst e1
    subst e3
    exact en⟩
end
end Mn
namespace Mn
open PySem
def cutY (ys : List Y) (lo hi : Option Int) : List Y := (ys.drop (HT.sIx ys.length 0 lo)).take (HT.sIx ys.length ys.length hi - HT.sIx ys.length 0 lo)
theorem cutY_to {ys : List Y} {k : Nat} : cutY ys none (some (k : Int)) = ys.take k := by
  unfold cutY
  rw [HT.sIx_nat, HT.sIx_none, List.drop_zero, Nat.sub_zero, List.take_eq_take_iff]
  omega
theorem cutY_from {ys : List Y} {k : Nat} : cutY ys (some (k : Int)) none = ys.drop k := by
  unfold cutY
  rw [HT.sIx_nat, HT.sIx_none]
  by_cases h : k ≤ ys.length
  · rw [Nat.min_eq_left h, List.take_of_length_le (by rw [List.length_drop]; omega)]
  · rw [Nat.min_eq_right (by omega), List.drop_length, List.take_nil, List.drop_of_length_le (by omega)]
theorem RYs.cut {v : Vw} {ds : List D} {ys : List Y} (lo hi : Option Int) (r : RYs v ds ys) : RYs v (cutD ds lo hi) (cutY ys lo hi) := by
  unfold cutD cutY
  rw [r.length]
  exact (r.drop _).take _
section
variable {E E1 : Ey} {o o1 o2 : OC} {Q Q' : Y → OC → Prop} {X X' : XQ} {i j : Int} {x y z : Y} {ys zs : List Y} {s s' : Str} {n : Nat} {c c' : C} {k : C → OC} {a b : ED}
def VOp (f : OD) (E : Ey) (o : OC) (Q : Option Int → OC → Prop) (X : XQ) : Prop := ∀ v e h, REy v e E → Sat v o h → PR (fun _ a b => a = b) v o h (f e h) Q X
def VSl (x : Y) (l u : Option Int) (o : OC) (Q : Y → OC → Prop) (X : XQ) : Prop := ∀ v d h, RY v d x → Sat v o h → PR RY v o h (slD d l u h) Q X
theorem vO_N {Q : Option Int → OC → Prop} (q : Q none o) : VOp oN E o Q X := fun v e h re s => PR.ok s rfl q
def OSK (Q : Option Int → OC → Prop) (x : Y) (o : OC) : Prop := ∃ i, x = .int i ∧ Q (some i) o
theorem os_i {i : Int} {Q : Option Int → OC → Prop} (q : Q (some i) o) : OSK Q (.int i) o := ⟨i, rfl, q⟩
theorem vO_S {Q : Option Int → OC → Prop} (p : VE a E o (OSK Q) X) : VOp (oS a) E o Q X := fun v e h re s =>
  (p v e h re s).bind fun v1 o1 h1 d y f1 s1 r1 p1 => by
    obtain ⟨i, e1, q⟩ := p1
    subst e1
    cases r1
    exact PR.ok s1 rfl q
theorem vE_Sl {lo hi : OD} (p : VE a E o (fun x o1 => VOp lo E o1 (fun l o2 => VOp hi E o2 (fun u o3 => VSl x l u o3 Q X) X) X) X) : VE (dSl a lo hi) E o Q X := fun v e h re s =>
  (p v e h re s).bind fun v1 o1 h1 d y f1 s1 r1 p1 => (p1 v1 e h1 (re.mono f1.mono) s1).bind fun v2 o2 h2 l l' f2 s2 r2 p2 => (p2 v2 e h2 ((re.mono f1.mono).mono f2.mono) s2).bind fun v3 o3 h3 u u' f3 s3 r3 p3 => by
    subst r2; subst r3
    exact p3 v3 d h3 ((r1.mono f2.mono).mono f3.mono) s3
theorem sl_l (own : Bool) {l u : Option Int} (hl : Ls o x ys) (q : NL own (cutY ys l u) o Q) : VSl x l u o Q X := fun v d h r s => by
  obtain ⟨n, ds, rfl, e1, rs⟩ := hl.get s r
  show PR RY v o h (match lstAt h n with | some xs => _ | none => _) Q X
  rw [e1]
  exact q.out s (rs.cut l u)
variable {Z : ZQ} {W : XS}
end
end Mn
namespace Mn
open PySem
section
variable {E E1 : Ey} {o : OC} {Z : ZQ} {W : XS} {tg : Tg} {body : SD} {ys : List Y}
theorem for_ix (I : Nat → Ey → OC → Prop) (i0 : I 0 E o) (st : ∀ t (h : t < ys.length) E o, I t E o → ∃ E1, TgY tg ys[t] E E1 ∧ VS body E1 o (loopZ (I (t + 1)) [] Z) W) (en : ∀ E o, I ys.length E o → Z .nx E o) : ForG tg body ys [] E o Z W :=
  ⟨o, [], fun pre => I pre.length, .nil, i0, fun pre y post E o e i => by
    have h : pre.length < ys.length := by rw [e]; simp
    obtain ⟨E1, t, b⟩ := st pre.length h E o i
    have ey : ys[pre.length] = y := by
      have : ys[pre.length]? = some y := by rw [e]; simp
      rw [List.getElem?_eq_getElem h] at this
      exact Option.some.inj this
    rw [ey] at t
    refine ⟨E1, t, ?_⟩
    show VS body E1 o (loopZ (I (pre ++ [y]).length) [] Z) W
    rw [List.length_append, List.length_singleton]
    exact b, en⟩
theorem for_mapI {α : Type} {xs : List α} {enc : α → Y} (I : Nat → Ey → OC → Prop) (i0 : I 0 E o) (st : ∀ t (h : t < xs.length) E o, I t E o → ∃ E1, TgY tg (enc xs[t]) E E1 ∧ VS body E1 o (loopZ (I (t + 1)) [] Z) W) (en : ∀ E o, I xs.length E o → Z .nx E o) : ForG tg body (xs.map enc) [] E o Z W :=
  for_ix I i0 (fun t h E o i => by rw [List.getElem_map]; exact st t (by simpa using h) E o i) (by rw [List.length_map]; exact en)
theorem for_enumI {α : Type} {xs : List α} {enc : α → Y} (I : Nat → Ey → OC → Prop) (i0 : I 0 E o) (st : ∀ t (h : t < xs.length) E o, I t E o → ∃ E1, TgY tg (.tup [.int (t : Nat), enc xs[t]]) E E1 ∧ VS body E1 o (loopZ (I (t + 1)) [] Z) W) (en : ∀ E o, I xs.length E o → Z .nx E o) : ForG tg body ((xs.map enc).zipIdx.map fun p => .tup [.int (p.2 : Nat), p.1]) [] E o Z W :=
  for_ix I i0 (fun t h E o i => by
    have h' : t < xs.length := by simpa using h
    obtain ⟨E1, q, b⟩ := st t h' E o i
    refine ⟨E1, ?_, b⟩
    rw [List.getElem_map, List.getElem_zipIdx]
    simpa using q) (by rw [List.length_map, List.length_zipIdx, List.length_map]; exact en)
theorem zipW_map {α β : Type} (f : α → Y) (g : β → Y) : ∀ (xs : List α) (ys : List β), List.zipWith (fun x y => Y.tup [x, y]) (xs.map f) (ys.map g) = (xs.zip ys).map fun p => .tup [f p.1, g p.2]
  | [], _ => by simp
  | _ :: _, [] => by simp
  | x :: xs, y :: ys => by simp [zipW_map f g xs ys]
end
end Mn
namespace Mn
open PySem
section
variable {E0 : Ey} {o : OC} {tg : Tg} {t : TD} {el : ED} {ys : List Y} {F : List Y → OC → Prop}
theorem lc_ix (I : Nat → List Y → OC → Prop) (hl : ys.length ≤ szl) (i0 : I 0 [] o)
    (st : ∀ i (h : i < ys.length) acc o, acc.length ≤ i → I i acc o → ∃ E1, TgY tg ys[i] E0 E1 ∧ VT t E1 o (fun k o1 => cnd k (VE el E1 o1 (fun z o2 => I (i + 1) (acc ++ [z]) o2) noq) (I (i + 1) acc o1)) noq)
    (en : ∀ acc o, I ys.length acc o → F acc o) : LcG tg t el E0 ys [] o F :=
  ⟨o, [], fun pre acc o' => acc.length ≤ pre.length ∧ I pre.length acc o', .nil, ⟨Nat.le_refl _, i0⟩, fun pre y post acc o' e ⟨hc, i⟩ => by
    have h : pre.length < ys.length := by rw [e]; simp
    obtain ⟨E1, tt, b⟩ := st pre.length h acc o' hc i
    have ey : ys[pre.length] = y := by
      have : ys[pre.length]? = some y := by rw [e]; simp
      rw [List.getElem?_eq_getElem h] at this
      exact Option.some.inj this
    rw [ey] at tt
    refine ⟨E1, tt, fun v e h' re s => (b v e h' re s).mono (fun k o2 q => ?_) fun _ _ q => q⟩
    cases k with
    | true =>
      refine VE.mono q (fun z o3 q3 => ?_) fun _ _ q => q
      exact ⟨by omega, by rw [List.length_append, List.length_append]; simpa using hc, by rw [List.length_append]; exact q3⟩
    | false => exact ⟨by rw [List.length_append]; omega, by rw [List.length_append]; exact q⟩, fun acc o' ⟨_, i⟩ => en acc o' i⟩
end
end Mn
namespace Mn
open PySem
theorem RFs.len {v : Vw} : ∀ {ds : List (Nat × D)} {fs : List (Nat × Y)}, RFs v ds fs → ds.length = fs.length
  | _, _, .nil => rfl
  | _, _, .cons _ r => congrArg Nat.succ (RFs.len r)
section
variable {E E' : Ey} {o o1 : OC} {Q : Y → OC → Prop} {X : XQ} {a b : ED} {as ks : AD} {f : FD} {Z : ZQ} {W : XS} {c n fd : Nat} {fs : List (Nat × Y)} {k : C → OC} {y x z w : Y} {ys : List Y}
inductive Is (o : OC) : Y → Nat → List (Nat × Y) → Prop
  | ins (c : Nat) (fs : List (Nat × Y)) : Is o (.ins c fs) c fs
  | own {n c : Nat} {fs : List (Nat × Y)} {k : C → OC} : At o n (.ins c fs) k → Is o (.own n) c fs
def VPut (na : Nat → List Nat) (f : Nat) (x y : Y) (o : OC) (J : OC → Prop) : Prop := ∃ n c fs k, x = .own n ∧ At o n (.ins c fs) k ∧ (na c).elem f = true ∧ fs.length < 900 ∧ J (k (.ins c (putA f y fs)))
theorem rfs_zip {v : Vw} : ∀ {fs : List Nat} {ds : List D} {ys : List Y}, RYs v ds ys → RFs v (fs.zip ds) (fs.zip ys)
  | [], _, _, _ => by simp; exact .nil
  | f :: fs, _, _, .nil => by simp; exact .nil
  | f :: fs, _, _, .cons a r => .cons a (rfs_zip r)
theorem RFs.app {v : Vw} : ∀ {ds es : List (Nat × D)} {fs gs : List (Nat × Y)}, RFs v ds fs → RFs v es gs → RFs v (ds ++ es) (fs ++ gs)
  | _, _, _, _, .nil, s => s
  | _, _, _, _, .cons a r, s => .cons a (RFs.app r s)
theorem RFs.rev {v : Vw} : ∀ {ds : List (Nat × D)} {fs : List (Nat × Y)}, RFs v ds fs → RFs v ds.reverse fs.reverse
  | _, _, .nil => .nil
  | _, _, .cons a r => by rw [List.reverse_cons, List.reverse_cons]; exact (RFs.rev r).app (.cons a .nil)
theorem vs_raiseA {nf : List Nat} (p : VA as E o (fun ys o1 => ys.length = nf.length ∧ W ⟨c, (nf.zip ys).reverse⟩ E o1) (xe W E)) : VS (sRaiseA c nf as) E o Z W := fun v e h re s =>
  PR.toS re (p v e h re s) fun v1 o1 h1 ds ys f1 s1 r1 p1 => by
    rw [if_pos (by rw [r1.length]; exact p1.1)]
    exact ⟨v1, o1, E, _, Fr.refl _ _ _, s1, re.mono f1.mono, ⟨rfl, (rfs_zip r1).rev⟩, p1.2⟩
end
mutual
def dOf : Y → Option D
  | .non => some .non
  | .bl b => some (.bl b)
  | .int i => some (.int i)
  | .str s => some (.str s)
  | .tup ys => (dOfs ys).map .tup
  | _ => none
def dOfs : List Y → Option (List D)
  | [] => some []
  | y :: ys => match dOf y, dOfs ys with
    | some d, some ds => some (d :: ds)
    | _, _ => none
end
mutual
theorem dOf_eq {v : Vw} : ∀ {y : Y} {d d' : D}, dOf y = some d → RY v d' y → d' = d
  | .non, _, _, h, r => by cases h; cases r; rfl
  | .bl _, _, _, h, r => by cases h; cases r; rfl
  | .int _, _, _, h, r => by cases h; cases r; rfl
  | .str _, _, _, h, r => by cases h; cases r; rfl
  | .tup ys, _, _, h, r => by
    cases r with
    | tup r =>
      change (dOfs ys).map D.tup = _ at h
      obtain ⟨ds, h1, h2⟩ := Option.map_eq_some_iff.mp h
      subst h2
      rw [dOfs_eq h1 r]
  | .lst _, _, _, h, _ => by cases h
  | .ins _ _, _, _, h, _ => by cases h
  | .own _, _, _, h, _ => by cases h
  | .frz _, _, _, h, _ => by cases h
theorem dOfs_eq {v : Vw} : ∀ {ys : List Y} {ds ds' : List D}, dOfs ys = some ds → RYs v ds' ys → ds' = ds
  | [], _, _, h, r => by cases h; cases r; rfl
  | y :: ys, ds, _, h, r => by
    cases r with
    | cons a r =>
      change (match dOf y, dOfs ys with | some d, some ds => some (d :: ds) | _, _ => none) = some ds at h
      split at h
      · rename_i d ds' h1 h2
        cases h
        rw [dOf_eq h1 a, dOfs_eq h2 r]
      · cases h
end
def dOfF : List (Nat × Y) → Option (List (Nat × D))
  | [] => some []
  | (n, y) :: r => match dOf y, dOfF r with
    | some d, some ds => some ((n, d) :: ds)
    | _, _ => none
theorem dOfF_eq {v : Vw} : ∀ {fs : List (Nat × Y)} {ds ds' : List (Nat × D)}, dOfF fs = some ds → RFs v ds' fs → ds' = ds
  | [], _, _, h, r => by cases h; cases r; rfl
  | (n, y) :: fs, ds, _, h, r => by
    cases r with
    | cons a r =>
      change (match dOf y, dOfF fs with | some d, some ds => some ((n, d) :: ds) | _, _ => none) = some ds at h
      split at h
      · rename_i d ds' h1 h2
        cases h
        rw [dOf_eq h1 a, dOfF_eq h2 r]
      · cases h
mutual
theorem dOf_ry {v : Vw} : ∀ {y : Y} {d : D}, dOf y = some d → RY v d y
  | .non, _, h => by cases h; exact .non
  | .bl _, _, h => by cases h; exact .bl _
  | .int _, _, h => by cases h; exact .int _
  | .str _, _, h => by cases h; exact .str _
  | .tup ys, _, h => by
    change (dOfs ys).map D.tup = _ at h
    obtain ⟨ds, h1, h2⟩ := Option.map_eq_some_iff.mp h
    subst h2
    exact .tup (dOfs_ry h1)
  | .lst _, _, h => by cases h
  | .ins _ _, _, h => by cases h
  | .own _, _, h => by cases h
  | .frz _, _, h => by cases h
theorem dOfs_ry {v : Vw} : ∀ {ys : List Y} {ds : List D}, dOfs ys = some ds → RYs v ds ys
  | [], _, h => by cases h; exact .nil
  | y :: ys, ds, h => by
    change (match dOf y, dOfs ys with | some d, some ds => some (d :: ds) | _, _ => none) = some ds at h
    split at h
    · rename_i d ds' h1 h2
      cases h
      exact .cons (dOf_ry h1) (dOfs_ry h2)
    · cases h
end
section
variable {E : Ey} {o : OC} {Q : Y → OC → Prop} {X : XQ}
def suOf (hd : Hd) (y : Xy) : SD := match dOfF y.fs with
  | some fs => hd.suite ⟨y.cls, fs⟩
  | none => sK
theorem vs_try1 {sub : Nat → Nat → Option Bool} {hd : Hd} {b : SD} {Z : ZQ} {W : XS} (p : VS b E o Z (tryW sub hd (suOf hd) Z W)) : VS (sTry sub b hd) E o Z W :=
  vs_try (fun v x y r E o Z q e h re s => by
    obtain ⟨r1, r2⟩ := r
    obtain ⟨xc, xf⟩ := x
    obtain ⟨yc, yf⟩ := y
    simp only at r1 r2
    subst r1
    unfold suOf at q
    dsimp only at q
    split at q
    · rename_i fs e1
      rw [dOfF_eq e1 r2]
      exact q v e h re s
    · exact (q v e h re s).elim) p
theorem tw_inF {sub : Nat → Nat → Option Bool} {hd : Hd} {Z : ZQ} {W : XS} {c : Nat} {fs : List (Nat × Y)} {ds : List (Nat × D)} (h : sub c hd.cls = some true) (hs : slotOk (E.map fun _ => none) hd.slot = true) (hf : dOfF fs = some ds)
    (p : VS (hd.suite ⟨c, ds⟩) (match hd.slot with | some i => E.set i none | none => E) o (fun f E2 o2 => Z f (match hd.slot with | some i => E2.set i none | none => E2) o2) nos) : tryW sub hd (suOf hd) Z W ⟨c, fs⟩ E o := .inl ⟨h, hs, by
  unfold suOf
  simp only [hf]
  exact p⟩
end
section
variable {o : OC} {Q : Y → OC → Prop} {X : XQ} {n : Nat} {c : C} {k : C → OC} {ys : List Y}
end
end Mn
namespace Mn
open PySem
section
variable {E : Ey} {o : OC} {Q : Y → OC → Prop} {X : XQ} {x : Y} {b : SD} {Z : ZQ} {W : XS} {sub : Nat → Nat → Option Bool}
end
end Mn
namespace Mn
open PySem
section
variable {v0 v v2 : Vw} {o : OC} {h0 h h2 : Hh} {p : Nat} {acc : List Y}
end
section
variable {E : Ey} {o : OC} {Q : Y → OC → Prop} {X : XQ}
end
end Mn
namespace Mn
open PySem
mutual
def Y.sub (n : Nat) (w : Y) : Y → Y
  | .tup ys => .tup (Y.subs n w ys)
  | .lst ys => .lst (Y.subs n w ys)
  | .frz ys => .frz (Y.subs n w ys)
  | .ins c fs => .ins c (Y.subF n w fs)
  | .own m => if m = n then w else .own m
  | .non => .non
  | .bl b => .bl b
  | .int i => .int i
  | .str s => .str s
  | .rg a b => .rg a b
def Y.subs (n : Nat) (w : Y) : List Y → List Y
  | [] => []
  | y :: ys => Y.sub n w y :: Y.subs n w ys
def Y.subF (n : Nat) (w : Y) : List (Nat × Y) → List (Nat × Y)
  | [] => []
  | (i, y) :: ys => (i, Y.sub n w y) :: Y.subF n w ys
end
mutual
theorem RY.sub {v : Vw} {n : Nat} {w : Y} (hw : RY v (.ref n) w) : ∀ {d : D} {y : Y}, RY v d y → RY v d (Y.sub n w y)
  | _, _, .non => .non
  | _, _, .bl b => .bl b
  | _, _, .int i => .int i
  | _, _, .str s => .str s
  | _, _, .rg a b => .rg a b
  | _, _, .tup r => .tup (RYs.sub hw r)
  | _, _, .lst e r => .lst e (RYs.sub hw r)
  | _, _, .frz e r => .frz e (RYs.sub hw r)
  | _, _, .ins e r => .ins e (RFs.sub hw r)
  | _, _, .own (n := m) => by
    rw [Y.sub]
    split
    · rename_i e; subst e; exact hw
    · exact .own
theorem RYs.sub {v : Vw} {n : Nat} {w : Y} (hw : RY v (.ref n) w) : ∀ {ds : List D} {ys : List Y}, RYs v ds ys → RYs v ds (Y.subs n w ys)
  | _, _, .nil => .nil
  | _, _, .cons a r => .cons (RY.sub hw a) (RYs.sub hw r)
theorem RFs.sub {v : Vw} {n : Nat} {w : Y} (hw : RY v (.ref n) w) : ∀ {ds : List (Nat × D)} {ys : List (Nat × Y)}, RFs v ds ys → RFs v ds (Y.subF n w ys)
  | _, _, .nil => .nil
  | _, _, .cons a r => .cons (RY.sub hw a) (RFs.sub hw r)
end
def C.sub (n : Nat) (w : Y) : C → C
  | .lst ys => .lst (Y.subs n w ys)
  | .ins c fs => .ins c (Y.subF n w fs)
theorem RC.sub {v : Vw} {n : Nat} {w : Y} (hw : RY v (.ref n) w) {x : O} {c : C} : RC v x c → RC v x (c.sub n w)
  | .lst r => .lst (RYs.sub hw r)
  | .ins r => .ins (RFs.sub hw r)
abbrev OC.sub (n : Nat) (w : Y) (o : OC) : OC := o.map fun p => (p.1, p.2.sub n w)
theorem OC.sub_ks (n : Nat) (w : Y) (o : OC) : (o.sub n w).ks = o.ks := by
  show List.map _ (List.map _ _) = _
  rw [List.map_map]
  rfl
theorem Sat.sub {v : Vw} {o : OC} {h : Hh} {n : Nat} {w : Y} (s : Sat v o h) (hw : RY v (.ref n) w) : Sat v (o.sub n w) h where
  vw := s.vw
  oc := fun p hp => by
    obtain ⟨q, hq, rfl⟩ := List.mem_map.mp hp
    obtain ⟨x, h1, h2, h3⟩ := s.oc q hq
    exact ⟨x, h1, h2, h3.sub hw⟩
  nd := by rw [OC.sub_ks]; exact s.nd
theorem Fr.sub {v v' : Vw} {o o' : OC} {h h' : Hh} (n : Nat) (w : Y) (f : Fr v o h v' o' h') : Fr v o h v' (o'.sub n w) h' :=
  ⟨f.mono, fun m x e k => by rw [OC.sub_ks]; exact f.keep m x e k⟩
abbrev Ey.sub (n : Nat) (w : Y) (E : Ey) : Ey := E.map fun y => y.map (Y.sub n w)
theorem REy.sub {v : Vw} {e : Ev} {E : Ey} {n : Nat} {w : Y} (r : REy v e E) (hw : RY v (.ref n) w) : REy v e (Ey.sub n w E) where
  len := by rw [List.length_map]; exact r.len
  at_ := fun i y hi => by
    rw [List.getElem?_map] at hi
    cases hE : E[i]? with
    | none => rw [hE] at hi; cases hi
    | some z =>
      rw [hE] at hi
      cases z with
      | none => cases hi
      | some z =>
        cases hi
        obtain ⟨d, h1, h2⟩ := r.at_ i z hE
        exact ⟨d, h1, RY.sub hw h2⟩
end Mn
namespace Mn
open PySem
section
variable {E : Ey} {o : OC} {Q : Y → OC → Prop} {Qb : Bool → OC → Prop} {X : XQ} {i : Int} {b : Bool} {s : Str}
theorem vE_cI (q : Q (.int i) o) : VE (dC (.int i)) E o Q X := vE_c (fun _ => .int _) q
theorem vE_cB (q : Q (.bl b) o) : VE (dC (.bl b)) E o Q X := vE_c (fun _ => .bl _) q
theorem vE_cS (q : Q (.str s) o) : VE (dC (.str s)) E o Q X := vE_c (fun _ => .str _) q
theorem vE_cN (q : Q .non o) : VE (dC .non) E o Q X := vE_c (fun _ => .non) q
theorem tb_b {k : Bool} (q : Qb k o) : TB (.bl k) o Qb := ⟨k, rfl, q⟩
def yR (q : Rat) : Y := .tup [.int q.num, .int (q.den : Int)]
theorem vE_c0 (q : Q (yR 0) o) : VE (dC (.tup [.int 0, .int 1])) E o Q X := vE_c (fun _ => .tup (.cons (.int _) (.cons (.int _) .nil))) q
theorem vE_c1 (q : Q (yR 1) o) : VE (dC (.tup [.int 1, .int 1])) E o Q X := vE_c (fun _ => .tup (.cons (.int _) (.cons (.int _) .nil))) q
theorem vE_t01 (q : Q (yR 0) o) : VE (dTup (aC (dC (.int 0)) (aC (dC (.int 1)) aN))) E o Q X := vE_Tup (vA_C (vE_cI (vA_C (vE_cI (vA_N ⟨by decide, q⟩)))))
theorem vE_t11 (q : Q (yR 1) o) : VE (dTup (aC (dC (.int 1)) (aC (dC (.int 1)) aN))) E o Q X := vE_Tup (vA_C (vE_cI (vA_C (vE_cI (vA_N ⟨by decide, q⟩)))))
theorem x_r0 {a : Rat} (q : Q (.int a.num) o) : VO2 ixD (yR a) (.int 0) o Q X := x_tup rfl q
theorem x_r1 {a : Rat} (q : Q (.int (a.den : Int)) o) : VO2 ixD (yR a) (.int 1) o Q X := x_tup rfl q
theorem cnd_rt {A B : Prop} {k : Bool} (h : k = true) (q : A) : cnd k A B := by subst h; exact q
theorem cnd_rf {A B : Prop} {k : Bool} (h : k = false) (q : B) : cnd k A B := by subst h; exact q
theorem szT {n : Nat} {B : Prop} (h : Nat.ble n szl = true) (b : B) : n ≤ szl ∧ B := ⟨Nat.le_of_ble_eq_true h, b⟩
theorem plT {k : Bool} {B : Prop} (h : k = true) (b : B) : k = true ∧ B := ⟨h, b⟩
mutual
def yOfD : D → Y
  | .non => .non
  | .bl b => .bl b
  | .int i => .int i
  | .str s => .str s
  | .tup ds => .tup (yOfDs ds)
  | .ref _ => .non
  | .rg a b => .rg a b
def yOfDs : List D → List Y
  | [] => []
  | d :: ds => yOfD d :: yOfDs ds
end
mutual
def cD : D → Bool
  | .ref _ => false
  | .tup ds => cDs ds
  | _ => true
def cDs : List D → Bool
  | [] => true
  | d :: ds => cD d && cDs ds
end
mutual
theorem cD_Y {v : Vw} : ∀ (d : D), cD d = true → RY v d (yOfD d)
  | .non, _ => .non
  | .bl b, _ => .bl b
  | .int i, _ => .int i
  | .str s, _ => .str s
  | .tup ds, h => .tup (cDs_Y ds h)
  | .ref _, h => by cases h
  | .rg a b, _ => .rg a b
theorem cDs_Y {v : Vw} : ∀ (ds : List D), cDs ds = true → RYs v ds (yOfDs ds)
  | [], _ => .nil
  | d :: ds, h => by
    have h' : (cD d && cDs ds) = true := h
    rw [Bool.and_eq_true] at h'
    exact .cons (cD_Y d h'.1) (cDs_Y ds h'.2)
end
def cutZ (J : Ey → OC → Prop) (Z : ZQ) : ZQ := fun f E o => match f with
  | .nx => J E o
  | f => Z f E o
theorem cz_nx {J : Ey → OC → Prop} {Z : ZQ} (q : J E o) : cutZ J Z .nx E o := q
theorem vs_cut {a b : SD} {Z : ZQ} {W : XS} (J : Ey → OC → Prop) (p : VS a E o (cutZ J Z) W) (q : ∀ E o, J E o → VS b E o Z W) : VS (sSq a b) E o Z W :=
  vs_sq (p.mono (fun l E o h => by cases l <;> first | exact q E o h | exact h) fun _ _ _ h => h)
theorem ret_p {r y : Y} (q : y = r) : Ret y o (fun y o => y = r ∧ o = []) := ret_0 ⟨q, rfl⟩
end
theorem atI_mapI {α : Type} (f : α → Y) {xs : List α} {i : Int} (h0 : 0 ≤ i) (h1 : i < xs.length) : L2.atI (xs.map f) i = some (f (xs[i.toNat]'(by omega))) := by
  have e : i = ((i.toNat : Nat) : Int) := by omega
  conv => lhs; rw [e]
  refine atI_nat ?_
  rw [List.getElem?_map, List.getElem?_eq_getElem (by omega)]
  rfl
theorem okY_R (a : Rat) : okY 12 (yR a) = true := rfl
theorem eqY_R (a b : Rat) : eqY (yR a) (yR b) = decide (a = b) := by
  by_cases h : a = b
  · subst h
    rw [decide_eq_true rfl]
    simp [eqY, yR, pdY, pdYs, PyData.eqv, PyData.eqvAll]
  · rw [decide_eq_false h]
    have : ¬(a.num = b.num ∧ (a.den : Int) = b.den) := fun z => h (Rat.ext z.1 (by omega))
    simp only [eqY, yR, pdY, pdYs, PyData.eqv, PyData.eqvAll, Bool.and_true]
    simpa using this
theorem c_eqR {a b : Rat} {o : OC} {Q : Y → OC → Prop} {X : XQ} (q : Q (.bl (decide (a = b))) o) : VO2 (bcmp .Eq) (yR a) (yR b) o Q X := c_eq (okY_R a) (okY_R b) (by rw [eqY_R]; exact q)
theorem log2_le_of {n k : Nat} (h : n < 2 ^ k) : n.log2 ≤ k := by
  by_cases z : n = 0
  · subst z; exact Nat.zero_le _
  · exact Nat.le_of_lt ((Nat.log2_lt z).mpr h)
theorem cMul_of {i j : Int} {k l : Nat} (hi : i.natAbs < 2 ^ k) (hj : j.natAbs < 2 ^ l) (h : k + l < 100000000) : cMul i j := by
  have := log2_le_of hi
  have := log2_le_of hj
  unfold cMul
  omega
theorem cDiv_of {j : Int} {k : Nat} (hj : j.natAbs < 2 ^ k) (h : k < 9000) (h0 : j ≠ 0) : cDiv j := by
  have := log2_le_of hj
  exact ⟨h0, by omega⟩
def Bd (k : Nat) (q : Rat) : Prop := q.num.natAbs < 2 ^ k ∧ q.den < 2 ^ k
theorem Bd.mono {k l : Nat} {q : Rat} (h : Bd k q) (hl : k ≤ l) : Bd l q := ⟨Nat.lt_of_lt_of_le h.1 (Nat.pow_le_pow_right (by decide) hl), Nat.lt_of_lt_of_le h.2 (Nat.pow_le_pow_right (by decide) hl)⟩
theorem natAbs_div_le (a : Int) (n : Nat) : (a / (n : Int)).natAbs ≤ a.natAbs := by
  cases n with
  | zero => simp
  | succ n => exact Int.natAbs_ediv_le_natAbs a _
theorem Bd.mk {p : Int} {q k : Nat} (hk : 0 < k) (hp : p.natAbs < 2 ^ k) (hq : q < 2 ^ k) : Bd k (mkRat p q) := by
  refine ⟨?_, ?_⟩
  · rw [Rat.num_mkRat]
    split
    · exact Nat.two_pow_pos k
    · refine Nat.lt_of_le_of_lt ?_ hp
      exact natAbs_div_le _ _
  · rw [Rat.den_mkRat]
    split
    · subst q
      cases k with
      | zero => omega
      | succ k => have := Nat.two_pow_pos k; rw [Nat.pow_succ]; omega
    · exact Nat.lt_of_le_of_lt (Nat.div_le_self _ _) hq
theorem Bd.pos {k : Nat} {q : Rat} (h : Bd k q) : 0 < k := by
  cases k with
  | zero => have := h.2; have := q.den_pos; omega
  | succ k => omega
theorem Bd.neg {k : Nat} {q : Rat} (h : Bd k q) : Bd k (-q) := ⟨by rw [Rat.neg_num, Int.natAbs_neg]; exact h.1, by rw [Rat.neg_den]; exact h.2⟩
theorem pow_mul_lt {a b k l : Nat} (ha : a < 2 ^ k) (hb : b < 2 ^ l) : a * b < 2 ^ (k + l) := by
  rw [Nat.pow_add]
  exact Nat.mul_lt_mul'' ha hb
theorem Bd.mul {k l : Nat} {a b : Rat} (ha : Bd k a) (hb : Bd l b) : Bd (k + l) (a * b) := by
  rw [Rat.mul_def']
  refine Bd.mk (by have := ha.pos; omega) ?_ (pow_mul_lt ha.2 hb.2)
  rw [Int.natAbs_mul]
  exact pow_mul_lt ha.1 hb.1
theorem Bd.add {k l : Nat} {a b : Rat} (ha : Bd k a) (hb : Bd l b) : Bd (k + l + 1) (a + b) := by
  rw [Rat.add_def']
  refine Bd.mk (by omega) ?_ ?_
  · refine Nat.lt_of_le_of_lt (Int.natAbs_add_le _ _) ?_
    rw [Int.natAbs_mul, Int.natAbs_mul, Int.natAbs_natCast, Int.natAbs_natCast]
    have h1 := pow_mul_lt ha.1 hb.2
    have h2 := pow_mul_lt hb.1 ha.2
    rw [Nat.add_comm l k] at h2
    rw [Nat.pow_succ]
    omega
  · have := pow_mul_lt ha.2 hb.2
    rw [Nat.pow_succ]
    omega
theorem Bd.sub {k l : Nat} {a b : Rat} (ha : Bd k a) (hb : Bd l b) : Bd (k + l + 1) (a - b) := by
  rw [Rat.sub_eq_add_neg]
  exact ha.add hb.neg
theorem Bd.inv {k : Nat} {a : Rat} (ha : Bd k a) : Bd k a⁻¹ := by
  refine ⟨?_, ?_⟩
  · rw [Rat.num_inv, Int.natAbs_mul, Int.natAbs_natCast, Int.natAbs_sign]
    split
    · simp only [Nat.zero_mul]; exact Nat.two_pow_pos k
    · rw [Nat.one_mul]; exact ha.2
  · rw [Rat.den_inv]
    split
    · exact Nat.lt_of_le_of_lt a.den_pos ha.2
    · exact ha.1
theorem Bd.div {k l : Nat} {a b : Rat} (ha : Bd k a) (hb : Bd l b) : Bd (k + l) (a / b) := by
  rw [Rat.div_def]
  exact ha.mul hb.inv
theorem Bd.zero : Bd 1 0 := ⟨by decide, by decide⟩
theorem Bd.one : Bd 1 1 := ⟨by decide, by decide⟩
theorem Bd.int {i : Int} {k : Nat} (h : i.natAbs < 2 ^ k) (hk : 0 < k) : Bd k (i : Rat) := ⟨h, by
  rw [Rat.den_intCast]
  exact Nat.one_lt_two_pow (by omega)⟩
theorem Bd.divInt {p q : Int} {k : Nat} (hq : q ≠ 0) (h1 : p.natAbs < 2 ^ k) (h2 : q.natAbs < 2 ^ k) : Bd k (Rat.divInt p q) := by
  refine ⟨?_, ?_⟩
  · rw [Rat.num_divInt]
    refine Nat.lt_of_le_of_lt (natAbs_div_le _ _) ?_
    rw [Int.natAbs_mul, Int.natAbs_sign_of_ne_zero hq, Nat.one_mul]; exact h1
  · rw [Rat.den_divInt, if_neg hq]
    exact Nat.lt_of_le_of_lt (Nat.div_le_self _ _) h2
theorem divInt_parts {p q : Int} (hq : q ≠ 0) : (Rat.divInt p q).num = p.fdiv (if q < 0 then -((Nat.gcd p.natAbs q.natAbs : Nat) : Int) else ((Nat.gcd p.natAbs q.natAbs : Nat) : Int)) ∧
    ((Rat.divInt p q).den : Int) = q.fdiv (if q < 0 then -((Nat.gcd p.natAbs q.natAbs : Nat) : Int) else ((Nat.gcd p.natAbs q.natAbs : Nat) : Int)) := by
  have g0 : Nat.gcd p.natAbs q.natAbs ≠ 0 := fun z => hq (Int.natAbs_eq_zero.mp (Nat.gcd_eq_zero_iff.mp z).2)
  generalize hg : Nat.gcd p.natAbs q.natAbs = g at *
  have dp : (g : Int) ∣ p := Int.ofNat_dvd_left.mpr (hg ▸ Nat.gcd_dvd_left _ _)
  have dq : (g : Int) ∣ q := Int.ofNat_dvd_left.mpr (hg ▸ Nat.gcd_dvd_right _ _)
  have gc : q.gcd p = g := by unfold Int.gcd; rw [Nat.gcd_comm]; exact hg
  obtain ⟨a, rfl⟩ := dp
  obtain ⟨b, rfl⟩ := dq
  have gp : (0 : Int) < g := by omega
  rw [Rat.num_divInt, Rat.den_divInt, gc, if_neg hq]
  have f1 : ∀ x : Int, ((g : Int) * x).fdiv g = x := fun x => by rw [Int.mul_comm]; exact Int.mul_fdiv_cancel _ (by omega)
  have f2 : ∀ x : Int, ((g : Int) * x).fdiv (-(g : Int)) = -x := fun x => by
    have : (g : Int) * x = (-x) * (-(g : Int)) := by rw [Int.neg_mul_neg, Int.mul_comm]
    rw [this]; exact Int.mul_fdiv_cancel _ (by omega)
  by_cases hn : (g : Int) * b < 0
  · rw [if_pos hn, f2, f2]
    have hb : b < 0 := by
      rcases Int.lt_trichotomy b 0 with h | h | h
      · exact h
      · subst h; simp at hn
      · exact absurd (Int.mul_pos gp h) (by omega)
    rw [Int.sign_eq_neg_one_of_neg hn]
    refine ⟨?_, ?_⟩
    · rw [Int.neg_one_mul, ← Int.mul_neg]; exact Int.mul_ediv_cancel_left _ (by omega)
    · rw [Int.natAbs_mul, Int.natAbs_natCast, Nat.mul_div_cancel_left _ (by omega)]; omega
  · rw [if_neg hn, f1, f1]
    have hb : 0 < b := by
      rcases Int.lt_trichotomy b 0 with h | h | h
      · exact absurd (Int.mul_neg_of_pos_of_neg gp h) hn
      · subst h; simp at hq
      · exact h
    rw [Int.sign_eq_one_of_pos (Int.mul_pos gp hb), Int.one_mul]
    refine ⟨Int.mul_ediv_cancel_left _ (by omega), ?_⟩
    rw [Int.natAbs_mul, Int.natAbs_natCast, Nat.mul_div_cancel_left _ (by omega)]; omega
theorem yR_int (i : Int) : Y.tup [.int i, .int 1] = yR (i : Rat) := rfl
mutual
theorem eqY_refl : ∀ y : Y, eqY y y = true
  | .non => rfl
  | .bl b => by simp [eqY, pdY, PyData.eqv]
  | .int i => by simp [eqY, pdY, PyData.eqv]
  | .str s => by simp [eqY, pdY, PyData.eqv]
  | .tup ys => eqYs_refl ys
  | .lst ys => eqYs_refl ys
  | .frz ys => eqYs_refl ys
  | .ins _ _ => rfl
  | .own _ => rfl
  | .rg _ _ => rfl
theorem eqYs_refl : ∀ ys : List Y, PyData.eqvAll (pdYs ys) (pdYs ys) = true
  | [] => rfl
  | y :: ys => by
    simp only [pdYs, PyData.eqvAll, Bool.and_eq_true]
    exact ⟨eqY_refl y, eqYs_refl ys⟩
end
theorem pd_L {v : Vw} {o : OC} {h : Hh} (s : Sat v o h) {y : Y} {ys : List Y} (l : Ls o y ys) {d : D} (r : RY v d y) (e : ys.all (okY 11) = true) : ∃ n, d = .ref n ∧ toPD h 12 d = some (pdY (.lst ys)) := by
  obtain ⟨n, ds, rfl, e1, rs⟩ := l.get s r
  refine ⟨n, rfl, ?_⟩
  have all : ∀ (ds : List D) (ys : List Y), RYs v ds ys → ys.all (okY 11) = true → allS (toPD h 11) ds = some (pdYs ys) := by
    intro ds
    induction ds with
    | nil => intro ys r e; cases r; rfl
    | cons d ds ih =>
      intro ys r e
      cases r with
      | cons r1 r2 =>
        rw [List.all_cons, Bool.and_eq_true] at e
        unfold allS
        rw [okY_pd s 11 _ _ r1 e.1, ih _ r2 e.2]
        rfl
  simp only [toPD, e1, all _ _ rs e, pdY, Option.map_some]
theorem eqD_L {v : Vw} {o : OC} {h : Hh} (s : Sat v o h) {x y : Y} {ys zs : List Y} (l : Ls o x ys) (l' : Ls o y zs) {d d' : D} (r : RY v d x) (r' : RY v d' y) (e : ys.all (okY 11) = true) (e' : zs.all (okY 11) = true) : eqD h d d' = some (eqY (.lst ys) (.lst zs)) := by
  obtain ⟨n, rfl, a⟩ := pd_L s l r e
  obtain ⟨m, rfl, b⟩ := pd_L s l' r' e'
  unfold eqD
  simp only [a, b]
  have s1 : SeqAt.shaped (pdY (.lst ys)) = true := okY_shaped (by simpa only [okY] using e)
  have s2 : SeqAt.shaped (pdY (.lst zs)) = true := okY_shaped (by simpa only [okY] using e')
  simp only [s1, s2, and_self, if_true]
  rfl
theorem c_eqL {o : OC} {Q : Y → OC → Prop} {X : XQ} {x y : Y} {ys zs : List Y} (l : Ls o x ys) (l' : Ls o y zs) (e : ys.all (okY 11) = true) (e' : zs.all (okY 11) = true) (q : Q (.bl (eqY (.lst ys) (.lst zs))) o) : VO2 (bcmp .Eq) x y o Q X := fun v d d' h r r' s => by
  show PR RY v o h (ofB (eqD h d d') id h) Q X
  rw [eqD_L s l l' r r' e e']
  exact PR.ok s (.bl _) q
theorem c_neL {o : OC} {Q : Y → OC → Prop} {X : XQ} {x y : Y} {ys zs : List Y} (l : Ls o x ys) (l' : Ls o y zs) (e : ys.all (okY 11) = true) (e' : zs.all (okY 11) = true) (q : Q (.bl (!eqY (.lst ys) (.lst zs))) o) : VO2 (bcmp .NotEq) x y o Q X := fun v d d' h r r' s => by
  show PR RY v o h (ofB (eqD h d d') not h) Q X
  rw [eqD_L s l l' r r' e e']
  exact PR.ok s (.bl _) q
section
variable {o : OC} {Q : Y → OC → Prop} {X : XQ} {x l : Y} {ys : List Y}
end
theorem okRs (k : Nat) (xs : List Rat) : (xs.map yR).all (okY (k + 1)) = true := by
  rw [List.all_map, List.all_eq_true]
  exact fun _ _ => by cases k <;> rfl
end Mn
namespace Mn
open PySem
local macro_rules | `(tactic| walk_at "at") => `(tactic| first | exact At.here | exact At.there At.here | exact At.there (At.there At.here) | exact At.there (At.there (At.there At.here)))
local macro_rules | `(tactic| walk_at "ls") => `(tactic| first | exact Ls.lst _ | exact Ls.frz _ | (refine' Ls.own ?hat; (case hat => walk_at "at")))
local macro_rules | `(tactic| walk_at "lw") => `(tactic| first | exact Lw.lst _ | exact Lw.frz _ | (refine' Lw.own ?hat; (case hat => walk_at "at")))
local macro_rules | `(tactic| walk_at "is") => `(tactic| first | exact Is.ins _ _ | (refine' Is.own ?hat; (case hat => walk_at "at")))
local macro_rules | `(tactic| walk_at "rm") => `(tactic| first | exact Rm.here | exact Rm.there Rm.here | exact Rm.there (Rm.there Rm.here) | exact Rm.there (Rm.there (Rm.there Rm.here)))
local macro_rules | `(tactic| walk_at "fz") => `(tactic| (repeat (first | exact Fz.nil | apply Fz.chg | apply Fz.keep)))
local macro_rules | `(tactic| walk_at "set") => `(tactic| (try (conv => arg 2; dsimp only [List.set, setY])))
local macro_rules | `(tactic| walk_at "v0") => `(tactic| (conv => arg 2; simp only [startY, List.map_cons, List.map_nil, List.length_cons, List.length_nil, Nat.reduceAdd, Nat.reduceSub, Nat.zero_add, List.replicate, List.cons_append, List.nil_append, List.append_nil]))
local macro_rules | `(tactic| walk_at "s1") => `(tactic| first
  | (with_reducible refine vs_sq ?_)
  | (with_reducible refine vs_if ?_)
  | (with_reducible refine vs_asN ?_)
  | (with_reducible refine vs_asI ?_)
  | (with_reducible refine vs_rt ?_)
  | (with_reducible refine vs_ex ?_)
  | (with_reducible refine vs_nx ?_)
  | (with_reducible refine vs_aug ?_)
  | (with_reducible refine vs_raise ?_)
  | (with_reducible refine vs_try1 ?_)
  | (with_reducible refine vs_par ?_)
  | (with_reducible refine vs_augI ?_)
  | (with_reducible refine vs_fl ?_)
  | (with_reducible refine vs_raiseA ?_)
  | (with_reducible refine vs_augF ?_)
  | (with_reducible refine vs_bk ?_)
  | (with_reducible refine vs_ct ?_))
local macro_rules | `(tactic| walk_at "e1") => `(tactic| first
  | ((with_reducible refine' vE_v ?hi ?_); (case hi => exact rfl))
  | (with_reducible refine vE_cI ?_)
  | (with_reducible refine vE_Ix ?_)
  | (with_reducible refine vE_B ?_)
  | (with_reducible refine vE_Cmp ?_)
  | (with_reducible refine vE_Call0 ?_)
  | (with_reducible refine vE_c0 ?_)
  | (with_reducible refine vE_c1 ?_)
  | (with_reducible refine vE_cB ?_)
  | (with_reducible refine vE_cN ?_)
  | (with_reducible refine vE_cS ?_)
  | ((with_reducible refine vE_cD rfl ?_); dsimp only [yOfDs, yOfD])
  | ((with_reducible refine vE_CallD rfl ?_); dsimp only [yOfDs, yOfD])
  | (with_reducible refine vE_Is ?_)
  | (with_reducible refine vE_t01 ?_)
  | (with_reducible refine vE_t11 ?_)
  | (with_reducible refine vE_Tup ?_)
  | (with_reducible refine vE_M ?_)
  | (with_reducible refine vE_U ?_)
  | (with_reducible refine vE_Lst false ?_)
  | (with_reducible refine vE_AndT ?_)
  | (with_reducible refine vE_OrT ?_)
  | (with_reducible refine vE_NotT ?_)
  | (with_reducible refine vE_If ?_)
  | (with_reducible refine vE_Ch ?_)
  | (with_reducible refine vE_Sl ?_)
  | (with_reducible refine vE_Fld ?_))
local macro_rules | `(tactic| walk_at "t1") => `(tactic| first
  | (with_reducible refine vT_B ?_)
  | (with_reducible refine vT_Not ?_)
  | (with_reducible refine vT_And ?_)
  | (with_reducible refine vT_Or ?_)
  | (with_reducible refine vT_E ?_)
  | (with_reducible refine vT_Y ?_))
local macro_rules | `(tactic| walk_at "b1") => `(tactic| first
  | (with_reducible refine b_add ?_)
  | (with_reducible refine b_sub ?_)
  | (with_reducible refine b_mul (by assumption) ?_)
  | (with_reducible refine b_div (by assumption) ?_)
  | ((with_reducible refine' b_mod ?hc ?_); (case hc => first | assumption | omega))
  | ((with_reducible refine' b_div ?hc ?_); (case hc => (with_reducible show cDiv (OfNat.ofNat _)); exact ⟨by decide, by decide⟩))
  | ((with_reducible refine' b_pow ?hc ?_); (case hc => decide)))
local macro_rules | `(tactic| walk_at "c1") => `(tactic| first
  | (with_reducible refine c_eqI ?_)
  | (with_reducible refine c_neI ?_)
  | (with_reducible refine c_eqS ?_)
  | (with_reducible refine c_neS ?_)
  | (with_reducible refine c_eqB ?_)
  | (with_reducible refine c_neB ?_)
  | (with_reducible refine c_lt ?_)
  | (with_reducible refine c_le ?_)
  | (with_reducible refine c_gt ?_)
  | (with_reducible refine c_ge ?_)
  | (with_reducible refine c_is ?_)
  | (with_reducible refine c_isB ?_)
  | (with_reducible refine c_isntB ?_)
  | (with_reducible refine c_isnt ?_)
  | (with_reducible refine c_eqR ?_)
  | (with_reducible refine c_neR ?_))
local macro_rules | `(tactic| walk_at "i1") => `(tactic| first
  | (with_reducible refine x_r0 ?_)
  | (with_reducible refine x_r1 ?_)
  | ((with_reducible refine' x_lst ?hl ?hi ?_); (case hl => walk_at "ls"); (case hi => exact rfl))
  | ((with_reducible refine' x_tup ?hi ?_); (case hi => exact rfl)))
local macro_rules | `(tactic| walk_at "f1") => `(tactic| first
  | (with_reducible refine f_gcd ?_)
  | (with_reducible refine f_int ?_)
  | (with_reducible refine f_intB ?_)
  | (with_reducible refine f_abs ?_)
  | (with_reducible refine f_lenT ?_)
  | (with_reducible refine f_tupleT ?_)
  | (with_reducible refine f_min ?_)
  | (with_reducible refine f_rng1 ?_)
  | (with_reducible refine f_max ?_)
  | ((with_reducible refine' f_str ?hc ?_); (case hc => assumption))
  | ((with_reducible refine' f_strL ?hc ?_); (case hc => assumption))
  | ((with_reducible refine' f_len ?hl ?_); (case hl => walk_at "ls"))
  | ((with_reducible refine' f_list false ?hl ?_); (case hl => walk_at "ls")))
local macro_rules | `(tactic| walk_at "z1") => `(tactic| first
  | (with_reducible refine tb_b ?_)
  | (with_reducible refine os_i ?_)
  | ((with_reducible refine' cnd_rt ?hk ?_); (case hk => rfl))
  | ((with_reducible refine' cnd_rf ?hk ?_); (case hk => rfl))
  | (with_reducible refine cnd_d (fun _ => ?_) (fun _ => ?_))
  | (with_reducible refine cnd_t ?_)
  | (with_reducible refine cnd_f ?_)
  | (with_reducible refine cnd_n ?_)
  | (with_reducible refine cnd_i (fun _ => ?_) (fun _ => ?_))
  | ((with_reducible refine sq_nx ?_); walk_at "set")
  | (with_reducible refine sq_rt ?_)
  | ((with_reducible refine cz_nx ?_); try dsimp only [List.set, setY])
  | (with_reducible refine cz_rt ?_)
  | (with_reducible refine cz_bk ?_)
  | (with_reducible refine cz_ct ?_)
  | (with_reducible refine fn_rt ?_)
  | (with_reducible refine fn_nx ?_)
  | (with_reducible refine szT rfl ?_)
  | (with_reducible refine plT rfl ?_)
  | (with_reducible refine u_neg ?_)
  | (with_reducible refine NL.fz ?_)
  | (with_reducible refine NL.ow fun _ _ => ?_)
  | ((with_reducible refine' st_own ?ha ?hi ?_); (case ha => walk_at "at"); (case hi => exact rfl); try dsimp only [List.set, Int.reduceToNat])
  | (with_reducible refine tr_b ?_)
  | (with_reducible refine tr_i ?_)
  | (with_reducible refine tr_n ?_)
  | (with_reducible refine i_add ?_)
  | (with_reducible refine i_sub ?_)
  | (with_reducible refine sq_bk ?_)
  | (with_reducible refine sq_ct ?_)
  | ((with_reducible refine lz_nx ?_); try dsimp only [List.set, setY])
  | ((with_reducible refine lz_ct ?_); try dsimp only [List.set, setY])
  | ((with_reducible refine lz_bk ?_); try dsimp only [List.set, setY])
  | (with_reducible refine lz_rt ?_)
  | (with_reducible contradiction)
  | ((with_reducible refine ret_p ?_); try with_reducible rfl))
local macro_rules | `(tactic| walk_at "l1") => `(tactic| first
  | (with_reducible refine vO_N ?_)
  | (with_reducible refine vO_S ?_)
  | (with_reducible refine sl_t ?_)
  | ((with_reducible refine' sl_l false ?hl ?_); (case hl => walk_at "ls"))
  | ((with_reducible refine' sl_s ?hl ?_); (case hl => assumption)))
local macro_rules | `(tactic| walk_at "v1") => `(tactic| first
  | ((with_reducible show VOp _ _ _ _ _); walk_at "l1")
  | ((with_reducible show VSl _ _ _ _ _ _); walk_at "l1")
  | ((with_reducible show VE _ _ _ _ _); walk_at "e1")
  | ((with_reducible show VO (fldD _) _ _ _ _); refine' fl_is ?hl ?hi ?_; (case hl => walk_at "is"); (case hi => exact rfl))
  | ((with_reducible show VPut _ _ _ _ _ _); refine' pt_own ?ha ?hn ?hl ?_; (case ha => walk_at "at"); (case hn => exact rfl); (case hl => exact Nat.le_of_ble_eq_true rfl))
  | ((with_reducible show VS _ _ _ _ _); walk_at "s1")
  | ((with_reducible show VA _ _ _ _ _); first | (with_reducible refine vA_C ?_) | (with_reducible refine vA_N ?_))
  | ((with_reducible show VT _ _ _ _ _); walk_at "t1")
  | ((with_reducible show VO2 (bop _) _ _ _ _ _); walk_at "b1")
  | ((with_reducible show VO2 (bcmp _) _ _ _ _ _); walk_at "c1")
  | ((with_reducible show VO2 ixD _ _ _ _ _); walk_at "i1")
  | ((with_reducible show VF _ _ _ _ _); walk_at "f1")
  | walk_at "z1")
local macro_rules | `(tactic| walk_at "v") => `(tactic| (repeat' (walk_at "v1")))
local macro_rules | `(tactic| walk_at "w") => `(tactic| (repeat' ((fail_if_success (with_reducible show VS (sSq (sIf _ _ _) _) _ _ _ _)); walk_at "v1")))
local macro_rules | `(tactic| walk_at "vl") => `(tactic| (repeat' ((fail_if_success (with_reducible show VE (dLst _) _ _ _ _)); walk_at "v1")))
local macro_rules | `(tactic| walk_at "vk") => `(tactic| (repeat' ((fail_if_success (with_reducible show VF fList _ _ _ _)); walk_at "v1")))
local macro_rules | `(tactic| walk_at "vt") => `(tactic| (repeat' ((fail_if_success (with_reducible show Ret _ _ _)); walk_at "v1")))
local macro_rules | `(tactic| walk_at "wi") => `(tactic| (repeat' ((fail_if_success (with_reducible show VS (sIf _ _ _) _ _ _ _)); walk_at "v1")))
local macro_rules | `(tactic| walk_at "vx") => `(tactic| (repeat' ((fail_if_success (with_reducible show VS _ _ _ _ _)); walk_at "v1")))
section
noncomputable def P_make : FD := fnRun (sSq (sIf (tB (dCmp .Eq (dV 1) (dC (.int 0)))) (sRaise 16) sNx)
    (sSq (sAs (dCall fGcd (aC (dV 0) (aC (dV 1) aN)) []) (ofG (gN 2)))
    (sSq (sIf (tB (dCmp .Lt (dV 1) (dC (.int 0)))) (sAs (dU .USub (dV 2)) (ofG (gN 2))) sNx)
    (sRt (dTup (aC (dB .FloorDiv (dV 0) (dV 2)) (aC (dB .FloorDiv (dV 1) (dV 2)) aN))))))) 3
noncomputable def P_add (c_make : FD) : FD := fnRun (sRt (dCall c_make (aC (dB .Add (dB .Mult (dIx (dV 0) (dC (.int 0))) (dIx (dV 1) (dC (.int 1)))) (dB .Mult (dIx (dV 1) (dC (.int 0))) (dIx (dV 0) (dC (.int 1))))) (aC (dB .Mult (dIx (dV 0) (dC (.int 1))) (dIx (dV 1) (dC (.int 1)))) aN)) [])) 2
noncomputable def P_negate : FD := fnRun (sRt (dTup (aC (dU .USub (dIx (dV 0) (dC (.int 0)))) (aC (dIx (dV 0) (dC (.int 1))) aN)))) 1
noncomputable def P_multiply (c_make : FD) : FD := fnRun (sRt (dCall c_make (aC (dB .Mult (dIx (dV 0) (dC (.int 0))) (dIx (dV 1) (dC (.int 0)))) (aC (dB .Mult (dIx (dV 0) (dC (.int 1))) (dIx (dV 1) (dC (.int 1)))) aN)) [])) 2
noncomputable def P_divide (c_make : FD) : FD := fnRun (sRt (dCall c_make (aC (dB .Mult (dIx (dV 0) (dC (.int 0))) (dIx (dV 1) (dC (.int 1)))) (aC (dB .Mult (dIx (dV 0) (dC (.int 1))) (dIx (dV 1) (dC (.int 0)))) aN)) [])) 2
noncomputable def P_compare : FD := fnRun (sSq (sAs (dB .Sub (dB .Mult (dIx (dV 0) (dC (.int 0))) (dIx (dV 1) (dC (.int 1)))) (dB .Mult (dIx (dV 1) (dC (.int 0))) (dIx (dV 0) (dC (.int 1))))) (ofG (gN 2)))
    (sRt (dB .Sub (dCall fInt (aC (dCmp .Gt (dV 2) (dC (.int 0))) aN) []) (dCall fInt (aC (dCmp .Lt (dV 2) (dC (.int 0))) aN) [])))) 3
noncomputable def P_sign (c_compare : FD) : FD := fnRun (sRt (dCall c_compare (aC (dV 0) (aC (dC (.tup [(.int 0), (.int 1)])) aN)) [])) 1
def Make (f : FD) : Prop := ∀ (p q : Int) (k : Nat), q ≠ 0 → q.natAbs < 2 ^ k → k < 9000 → VP f [.int p, .int q] (yR (Rat.divInt p q))
theorem cDiv_gcd {p q : Int} {k : Nat} (h0 : q ≠ 0) (h1 : q.natAbs < 2 ^ k) (h2 : k < 9000) : cDiv ((Nat.gcd p.natAbs q.natAbs : Nat) : Int) ∧ cDiv (-((Nat.gcd p.natAbs q.natAbs : Nat) : Int)) := by
  have g0 : Nat.gcd p.natAbs q.natAbs ≠ 0 := fun z => h0 (Int.natAbs_eq_zero.mp (Nat.gcd_eq_zero_iff.mp z).2)
  have gl : Nat.gcd p.natAbs q.natAbs ≤ q.natAbs := Nat.gcd_le_right _ (by omega)
  refine ⟨cDiv_of (k := k) ?_ h2 (by omega), cDiv_of (k := k) ?_ h2 (by omega)⟩
  · rw [Int.natAbs_natCast]; omega
  · rw [Int.natAbs_neg, Int.natAbs_natCast]; omega
theorem make_ok : Make P_make := fun p q k h0 h1 h2 => by
  obtain ⟨d1, d2⟩ := cDiv_gcd (p := p) h0 h1 h2
  obtain ⟨e1, e2⟩ := divInt_parts (p := p) h0
  refine vp_run ?_
  walk_at "v0"
  walk_at "v"
  · rename_i hn
    rw [if_pos hn] at e1 e2
    unfold yR
    rw [e1, e2]
  · rename_i hn
    rw [if_neg hn] at e1 e2
    unfold yR
    rw [e1, e2]
theorem den_cast (a b : Rat) : ((a.den : Int) * (b.den : Int)) = ((a.den * b.den : Nat) : Int) := by simp
theorem divInt_nat (n : Int) (d : Nat) : Rat.divInt n (d : Int) = mkRat n d := Rat.divInt_ofNat n d
theorem den_ne {a b : Rat} : ((a.den : Int) * (b.den : Int)) ≠ 0 := by
  have := a.den_pos; have := b.den_pos
  exact Int.mul_ne_zero (by omega) (by omega)
theorem den_lt {a b : Rat} {k l : Nat} (ha : Bd k a) (hb : Bd l b) : ((a.den : Int) * (b.den : Int)).natAbs < 2 ^ (k + l) := by
  rw [Int.natAbs_mul]
  exact pow_mul_lt ha.2 hb.2
theorem cm_nd {a b : Rat} {k l : Nat} (ha : Bd k a) (hb : Bd l b) (h : k + l < 8999) : cMul a.num (b.den : Int) := cMul_of ha.1 (by rw [Int.natAbs_natCast]; exact hb.2) (by omega)
theorem cm_dd {a b : Rat} {k l : Nat} (ha : Bd k a) (hb : Bd l b) (h : k + l < 8999) : cMul (a.den : Int) (b.den : Int) := cMul_of (by rw [Int.natAbs_natCast]; exact ha.2) (by rw [Int.natAbs_natCast]; exact hb.2) (by omega)
theorem cm_nn {a b : Rat} {k l : Nat} (ha : Bd k a) (hb : Bd l b) (h : k + l < 8999) : cMul a.num b.num := cMul_of ha.1 hb.1 (by omega)
theorem cm_dn {a b : Rat} {k l : Nat} (ha : Bd k a) (hb : Bd l b) (h : k + l < 8999) : cMul (a.den : Int) b.num := cMul_of (by rw [Int.natAbs_natCast]; exact ha.2) hb.1 (by omega)
def Add (f : FD) : Prop := ∀ {a b : Rat} {k l : Nat}, Bd k a → Bd l b → k + l < 8999 → VP f [yR a, yR b] (yR (a + b))
def Sub (f : FD) : Prop := ∀ {a b : Rat} {k l : Nat}, Bd k a → Bd l b → k + l < 8999 → VP f [yR a, yR b] (yR (a - b))
def Mul (f : FD) : Prop := ∀ {a b : Rat} {k l : Nat}, Bd k a → Bd l b → k + l < 8999 → VP f [yR a, yR b] (yR (a * b))
theorem add_ok {c_make : FD} (hm : Make c_make) : Add (P_add c_make) := fun {a b k l} ha hb h => by
  have := cm_nd ha hb h; have := cm_nd hb ha (by omega); have := cm_dd ha hb h
  refine vp_run ?_
  walk_at "v0"
  walk_at "v"
  refine vc_p (hm _ _ _ den_ne (den_lt ha hb) (by omega)) ?_
  walk_at "v"
  rw [den_cast, divInt_nat, ← Rat.add_def']
theorem multiply_ok {c_make : FD} (hm : Make c_make) : Mul (P_multiply c_make) := fun {a b k l} ha hb h => by
  have := cm_nn ha hb h; have := cm_dd ha hb h
  refine vp_run ?_
  walk_at "v0"
  walk_at "v"
  refine vc_p (hm _ _ _ den_ne (den_lt ha hb) (by omega)) ?_
  walk_at "v"
  rw [den_cast, divInt_nat, ← Rat.mul_def']
def Neg (f : FD) : Prop := ∀ a : Rat, VP f [yR a] (yR (-a))
theorem negate_ok : Neg P_negate := fun a => by
  refine vp_run ?_
  walk_at "v0"
  walk_at "v"
  rfl
theorem divInt_div (a b : Rat) : Rat.divInt (a.num * b.den) (a.den * b.num) = a / b := by
  rw [Rat.div_def, Rat.inv_def]
  conv => rhs; rw [← Rat.num_divInt_den a]
  rw [Rat.divInt_mul_divInt]
def Div (f : FD) : Prop := ∀ {a b : Rat} {k l : Nat}, Bd k a → Bd l b → k + l < 8999 → b ≠ 0 → VP f [yR a, yR b] (yR (a / b))
theorem divide_ok {c_make : FD} (hm : Make c_make) : Div (P_divide c_make) := fun {a b k l} ha hb h h0 => by
  have := cm_nd ha hb h; have := cm_dn ha hb h
  have nb : b.num ≠ 0 := fun z => h0 (Rat.num_eq_zero.mp z)
  refine vp_run ?_
  walk_at "v0"
  walk_at "v"
  have hd := a.den_pos
  refine vc_p (hm _ _ (k + l) (Int.mul_ne_zero (by omega) nb) ?_ (by omega)) ?_
  · rw [Int.natAbs_mul]; exact pow_mul_lt ha.2 hb.1
  walk_at "v"
  rw [divInt_div]
def cmpR (a b : Rat) : Int := if b < a then 1 else if a < b then -1 else 0
def Cmp (f : FD) : Prop := ∀ {a b : Rat} {k l : Nat}, Bd k a → Bd l b → k + l < 8999 → VP f [yR a, yR b] (.int (cmpR a b))
theorem compare_ok : Cmp P_compare := fun {a b k l} ha hb h => by
  have := cm_nd ha hb h; have := cm_nd hb ha (by omega)
  have e1 := Rat.lt_iff b a
  have e2 := Rat.lt_iff a b
  refine vp_run ?_
  walk_at "v0"
  walk_at "v"
  congr 1
  unfold cmpR
  by_cases h1 : b < a
  · have h3 := e1.mp h1
    rw [if_pos h1]
    have d1 : decide (0 < a.num * (b.den : Int) - b.num * (a.den : Int)) = true := decide_eq_true (by omega)
    have d2 : decide (a.num * (b.den : Int) - b.num * (a.den : Int) < 0) = false := decide_eq_false (by omega)
    rw [d1, d2]; rfl
  · have h3 : ¬ _ := fun z => h1 (e1.mpr z)
    rw [if_neg h1]
    have d1 : decide (0 < a.num * (b.den : Int) - b.num * (a.den : Int)) = false := decide_eq_false (by omega)
    by_cases h2 : a < b
    · have h4 := e2.mp h2
      have d2 : decide (a.num * (b.den : Int) - b.num * (a.den : Int) < 0) = true := decide_eq_true (by omega)
      rw [if_pos h2, d1, d2]; rfl
    · have h4 : ¬ _ := fun z => h2 (e2.mpr z)
      have d2 : decide (a.num * (b.den : Int) - b.num * (a.den : Int) < 0) = false := decide_eq_false (by omega)
      rw [if_neg h2, d1, d2]; rfl
def Sign (f : FD) : Prop := ∀ {a : Rat} {k : Nat}, Bd k a → k < 8998 → VP f [yR a] (.int (cmpR a 0))
theorem sign_ok {c_compare : FD} (hc : Cmp c_compare) : Sign (P_sign c_compare) := fun {a k} ha h => by
  refine vp_run ?_
  walk_at "v0"
  walk_at "v"
  refine vc_p (hc ha Bd.zero (by omega)) ?_
  walk_at "v"
section
variable {f : FD} {o : OC} {Q : Y → OC → Prop} {X : XQ} {a b : Rat} {k l : Nat}
theorem add_call (h : Add f) (ha : Bd k a) (hb : Bd l b) (hk : k + l < 8999) (q : Q (yR (a + b)) o) : VF f [yR a, yR b] o Q X := vc_p (h ha hb hk) q
theorem mul_call (h : Mul f) (ha : Bd k a) (hb : Bd l b) (hk : k + l < 8999) (q : Q (yR (a * b)) o) : VF f [yR a, yR b] o Q X := vc_p (h ha hb hk) q
theorem neg_call (h : Neg f) (q : Q (yR (-a)) o) : VF f [yR a] o Q X := vc_p (h _) q
theorem sign_call (h : Sign f) (ha : Bd k a) (hk : k < 8998) (q : Q (.int (cmpR a 0)) o) : VF f [yR a] o Q X := vc_p (h ha hk) q
end
end
local macro_rules | `(tactic| walk_at "bd") => `(tactic| first
  | assumption
  | exact Bd.zero
  | exact Bd.one
  | ((with_reducible refine' Bd.add ?ha ?hb); (case ha => walk_at "bd"); (case hb => walk_at "bd"))
  | ((with_reducible refine' Bd.sub ?ha ?hb); (case ha => walk_at "bd"); (case hb => walk_at "bd"))
  | ((with_reducible refine' Bd.mul ?ha ?hb); (case ha => walk_at "bd"); (case hb => walk_at "bd"))
  | ((with_reducible refine' Bd.neg ?ha); (case ha => walk_at "bd"))
  | ((with_reducible refine' Bd.div ?ha ?hb); (case ha => walk_at "bd"); (case hb => walk_at "bd")))
local macro_rules | `(tactic| walk_at "f1") => `(tactic| first
  | ((with_reducible refine' add_call (by assumption) ?h1 ?h2 ?h3 ?_); (case h1 => walk_at "bd"); (case h2 => walk_at "bd"); (case h3 => omega))
  | ((with_reducible refine' mul_call (by assumption) ?h1 ?h2 ?h3 ?_); (case h1 => walk_at "bd"); (case h2 => walk_at "bd"); (case h3 => omega))
  | ((with_reducible refine' sub_call (by assumption) ?h1 ?h2 ?h3 ?_); (case h1 => walk_at "bd"); (case h2 => walk_at "bd"); (case h3 => omega))
  | ((with_reducible refine' cmp_call (by assumption) ?h1 ?h2 ?h3 ?_); (case h1 => walk_at "bd"); (case h2 => walk_at "bd"); (case h3 => omega))
  | ((with_reducible refine' sign_call (by assumption) ?h1 ?h3 ?_); (case h1 => walk_at "bd"); (case h3 => omega))
  | ((with_reducible refine' floor_call (by assumption) ?h1 ?h3 ?_); (case h1 => walk_at "bd"); (case h3 => omega))
  | (with_reducible refine neg_call (by assumption) ?_))
section
noncomputable def P__law_deck : FD := fnRun (sRt (dLst (aC (dCall fList (aC (dV 0) aN) []) (aC (dC (.int 0)) (aC (dC (.int 0)) (aC (dC (.int 7)) aN)))))) 1
noncomputable def P__law_draw : FD := fnRun (sSq (sIf (tB (dCmp .GtE (dIx (dV 0) (dC (.int 2))) (dV 1))) (sSq (sAs (dB .Mod (dCall fInt (aC (dIx (dV 0) (dC (.int 2))) aN) []) (dV 1)) (ofG (gN 2)))
    (sSq (sAs (dB .FloorDiv (dIx (dV 0) (dC (.int 2))) (dV 1)) (gIx (dV 0) (dC (.int 2))))
    (sRt (dV 2)))) sNx)
    (sSq (sAs (dC (.int 0)) (ofG (gN 3)))
    (sSq (sIf (tB (dCmp .Lt (dIx (dV 0) (dC (.int 1))) (dCall fLen (aC (dIx (dV 0) (dC (.int 0))) aN) []))) (sAs (dIx (dIx (dV 0) (dC (.int 0))) (dIx (dV 0) (dC (.int 1)))) (ofG (gN 3))) sNx)
    (sSq (sAs (dB .Add (dIx (dV 0) (dC (.int 1))) (dC (.int 1))) (gIx (dV 0) (dC (.int 1))))
    (sSq (sAs (dC (.int 0)) (gIx (dV 0) (dC (.int 2))))
    (sSq (sIf (tB (dCmp .GtE (dV 3) (dB .Pow (dC (.int 10)) (dC (.int 18))))) (sSq (sAs (dB .FloorDiv (dV 3) (dV 1)) (gIx (dV 0) (dC (.int 2))))
    (sRt (dB .Mod (dCall fInt (aC (dV 3) aN) []) (dV 1)))) sNx)
    (sSq (sAs (dB .Mod (dCall fInt (aC (dB .Add (dB .Add (dB .Mult (dIx (dV 0) (dC (.int 3))) (dC (.int 48271))) (dB .Mult (dV 3) (dC (.int 69621)))) (dB .Mult (dIx (dV 0) (dC (.int 1))) (dC (.int 911)))) aN) []) (dC (.int 2147483647))) (gIx (dV 0) (dC (.int 3))))
    (sSq (sAs (dB .Mod (dCall fInt (aC (dB .Add (dB .Mult (dIx (dV 0) (dC (.int 3))) (dC (.int 48271))) (dC (.int 12345))) aN) []) (dC (.int 2147483647))) (gIx (dV 0) (dC (.int 3))))
    (sRt (dB .Mod (dCall fInt (aC (dB .FloorDiv (dIx (dV 0) (dC (.int 3))) (dC (.int 64))) aN) []) (dV 1))))))))))) 4
noncomputable def P__law_same (c__law_same : FD) : FD := fnRun (sSq (sIf (tE (dIs .tuple (dV 1))) (sSq (sIf (tOr (tNot (tE (dIs .tuple (dV 0)))) (tB (dCmp .NotEq (dCall fLen (aC (dV 0) aN) []) (dCall fLen (aC (dV 1) aN) [])))) (sRt (dC (.bl false))) sNx)
    (sSq (sFor (iRange1 (dCall fLen (aC (dV 1) aN) [])) (gN 2) (sIf (tNot (tE (dCall c__law_same (aC (dIx (dV 0) (dV 2)) (aC (dIx (dV 1) (dV 2)) aN)) []))) (sRt (dC (.bl false))) sNx))
    (sRt (dC (.bl true))))) sNx)
    (sSq (sIf (tOr (tE (dIs .bool (dV 1))) (tE (dIs .bool (dV 0)))) (sRt (dAndT (dIs .bool (dV 1)) (dAndT (dIs .bool (dV 0)) (dCmp .Eq (dV 1) (dV 0))))) sNx)
    (sSq (sIf (tE (dIs .int (dV 1))) (sRt (dAndT (dIs .int (dV 0)) (dCmp .Eq (dV 0) (dV 1)))) sNx)
    (sSq (sIf (tE (dIs .str (dV 1))) (sRt (dAndT (dIs .str (dV 0)) (dCmp .Eq (dV 0) (dV 1)))) sNx)
    (sRt (dAndT (dCmp .Is (dV 1) (dC .non)) (dCmp .Is (dV 0) (dC .non)))))))) 3
noncomputable def P__law_gcd : FD := fnRun (sSq (sFor (iRange1 (dC (.int 5000))) (gN 2) (sSq (sIf (tB (dCmp .Eq (dV 1) (dC (.int 0)))) (sRt (dV 0)) sNx)
    (sSq (sAs (dB .Mod (dCall fInt (aC (dV 0) aN) []) (dV 1)) (ofG (gN 3)))
    (sSq (sAs (dV 1) (ofG (gN 0)))
    (sAs (dV 3) (ofG (gN 1)))))))
    (sRt (dV 0))) 4
noncomputable def P__law_ratio (c__law_gcd : FD) : FD := fnRun (sSq (sAs (dCall c__law_gcd (aC (dCall fAbs (aC (dV 0) aN) []) (aC (dCall fAbs (aC (dV 1) aN) []) aN)) []) (ofG (gN 2)))
    (sSq (sIf (tB (dCmp .Lt (dV 1) (dC (.int 0)))) (sAs (dU .USub (dV 2)) (ofG (gN 2))) sNx)
    (sRt (dTup (aC (dB .FloorDiv (dV 0) (dV 2)) (aC (dB .FloorDiv (dV 1) (dV 2)) aN)))))) 3
def dkC (ns : List Int) (i acc seed : Int) : C := .lst [.lst (ns.map .int), .int i, .int acc, .int seed]
def DK (ns : List Int) (m : Nat) (c : C) : Prop := ∃ i acc seed : Int, c = dkC ns i acc seed ∧ 0 ≤ i ∧ i ≤ m ∧ 0 ≤ acc ∧ 0 ≤ seed ∧ seed < 2147483647 ∧ ∀ z ∈ ns, z.natAbs < 2 ^ 1048577
theorem DK.mono {ns : List Int} {m m' : Nat} {c : C} (h : DK ns m c) (hm : m ≤ m') : DK ns m' c := by
  obtain ⟨i, a, s, h1, h2, h3, h4⟩ := h
  exact ⟨i, a, s, h1, h2, by omega, h4⟩
def Deck (f : FD) : Prop := ∀ ns : List Int, (∀ z ∈ ns, z.natAbs < 2 ^ 1048577) → VF f [.frz (ns.map .int)] [] (fun y o => ∃ n c, y = .own n ∧ o = [(n, c)] ∧ DK ns 0 c) noq
theorem deck_ok : Deck P__law_deck := fun ns hb => by
  refine vf_run ?_
  walk_at "v0"
  refine vs_rt (vE_Lst true ?_)
  walk_at "v"
  exact ret_v (List.Sublist.refl _) ⟨_, _, rfl, rfl, 0, 0, 7, rfl, by decide, by decide, by decide, by decide, by decide, hb⟩
def Draw (f : FD) : Prop := ∀ (n : Nat) (c : C) (ns : List Int) (m : Nat) (most : Int), DK ns m c → m < 2 ^ 60 → 0 < most → most < 2 ^ 8000 → VF f [.own n, .int most] [(n, c)] (fun y o => ∃ r c', y = .int r ∧ 0 ≤ r ∧ r < most ∧ o = [(n, c')] ∧ DK ns (m + 1) c') noq
theorem fdiv_nn {a b : Int} (ha : 0 ≤ a) (hb : 0 < b) : 0 ≤ a.fdiv b := by
  rw [Int.fdiv_eq_ediv_of_nonneg _ (by omega)]
  exact Int.ediv_nonneg ha (by omega)
theorem fmod_lt {a b : Int} (hb : 0 < b) : 0 ≤ a.fmod b ∧ a.fmod b < b := by
  rw [Int.fmod_eq_emod_of_nonneg _ (by omega)]
  exact ⟨Int.emod_nonneg _ (by omega), Int.emod_lt_of_pos _ hb⟩
theorem natAbs_lt_pow {a : Int} {k : Nat} (h0 : 0 ≤ a) (h : a < 2 ^ k) : a.natAbs < 2 ^ k := by
  have : ((a.natAbs : Nat) : Int) = a := by omega
  have h2 : ((a.natAbs : Nat) : Int) < ((2 ^ k : Nat) : Int) := by rw [this]; simpa using h
  exact Int.ofNat_lt.mp h2
theorem draw_ok : Draw P__law_draw := fun n c ns m most hd hm h0 h1 => by
  obtain ⟨i, acc, seed, rfl, hi, him, ha, hs, hs2, hb⟩ := hd
  have cd : cDiv most := cDiv_of (k := 8000) (natAbs_lt_pow (by omega) h1) (by omega) (by omega)
  have m1 : cMul seed 48271 := cMul_of (k := 31) (l := 16) (by omega) (by decide) (by omega)
  have m2 : cMul (i + 1) 911 := cMul_of (k := 61) (l := 10) (by omega) (by decide) (by omega)
  have m3 : ∀ z : Int, cMul (z.fmod 2147483647) 48271 := fun z => by
    have := fmod_lt (a := z) (b := 2147483647) (by decide)
    exact cMul_of (k := 31) (l := 16) (by omega) (by decide) (by omega)
  have key : ∀ z ∈ (0 : Int) :: ns, cMul z 69621 := fun z hz => by
    rcases List.mem_cons.mp hz with h | h
    · subst h; exact cMul_of (k := 1) (l := 17) (by decide) (by decide) (by omega)
    · exact cMul_of (k := 1048577) (l := 17) (hb z h) (by decide) (by omega)
  refine vf_run ?_
  unfold dkC
  walk_at "v0"
  walk_at "v"
  · exact ret_v (List.Sublist.refl _) ⟨_, _, rfl, (fmod_lt h0).1, (fmod_lt h0).2, rfl, _, _, _, rfl, hi, by omega, fdiv_nn ha h0, hs, hs2, hb⟩
  · rename_i hl
    rw [List.length_map] at hl
    refine x_lst (.lst _) (atI_mapI Y.int hi hl) ?_
    have kz := key _ (.tail _ (List.getElem_mem (l := ns) (n := i.toNat) (by omega)))
    walk_at "v"
    · rename_i hz
      have h10 : (0 : Int) ≤ 10 ^ Int.toNat 18 := by decide
      exact ret_v (List.Sublist.refl _) ⟨_, _, rfl, (fmod_lt h0).1, (fmod_lt h0).2, rfl, _, _, _, rfl, by omega, by omega, fdiv_nn (Int.le_trans h10 hz) h0, hs, hs2, hb⟩
    · refine b_mul (m3 _) ?_
      walk_at "v"
      exact ret_v (List.Sublist.refl _) ⟨_, _, rfl, (fmod_lt h0).1, (fmod_lt h0).2, rfl, _, _, _, rfl, by omega, by omega, by decide, (fmod_lt (by decide)).1, (fmod_lt (by decide)).2, hb⟩
  · have kz := key 0 (.head _)
    walk_at "v"
    · refine b_mul (m3 _) ?_
      walk_at "v"
      exact ret_v (List.Sublist.refl _) ⟨_, _, rfl, (fmod_lt h0).1, (fmod_lt h0).2, rfl, _, _, _, rfl, by omega, by omega, by decide, (fmod_lt (by decide)).1, (fmod_lt (by decide)).2, hb⟩
theorem draw_call {d : FD} (hd : Draw d) {o : OC} {n : Nat} {c : C} {k : C → OC} {ns : List Int} {m : Nat} {most : Int} {Q : Y → OC → Prop} {X : XQ} (a : At o n c k) (hk : DK ns m c) (hm : m < 2 ^ 60) (h0 : 0 < most) (h1 : most < 2 ^ 8000)
    (q : ∀ r c', 0 ≤ r → r < most → DK ns (m + 1) c' → Q (.int r) (k c')) : VF d [.own n, .int most] o Q X :=
  vc_own a (hd n c ns m most hk hm h0 h1) (fun y o1 ⟨r, c1, e1, r0, r1, e2, k1⟩ => ⟨c1, e2, by subst e1; exact q r c1 r0 r1 k1⟩) (fun _ _ z => z.elim)
def smY : Nat → Y → Bool
  | _, .non | _, .bl _ | _, .int _ | _, .str _ => true
  | k + 1, .tup ys => decide (ys.length < 1000000) && ys.all (smY k)
  | _, _ => false
def Same (k : Nat) (f : FD) : Prop := ∀ y, smY k y = true → VP f [y, y] (.bl true)
theorem isTy_sm {k : Nat} {y : Y} (h : smY k y = true) : plY y = true := by cases y <;> first | rfl | (cases k <;> simp [smY] at h)
theorem same_ok (k : Nat) {c : FD} (hc : ∀ j, k = j + 1 → Same j c) : Same k (P__law_same c) := fun y hy => by
  have pl := isTy_sm hy
  cases y with
  | non =>
    refine vp_run ?_
    walk_at "v0"
    walk_at "v"
    rfl
  | bl b =>
    refine vp_run ?_
    walk_at "v0"
    walk_at "v"
    simp
  | int i =>
    refine vp_run ?_
    walk_at "v0"
    walk_at "v"
    simp
  | str s =>
    refine vp_run ?_
    walk_at "v0"
    walk_at "v"
    simp
  | tup ys =>
    cases k with
    | zero => simp [smY] at hy
    | succ k =>
      simp only [smY, Bool.and_eq_true, decide_eq_true_eq] at hy
      refine vp_run ?_
      walk_at "v0"
      walk_at "v"
      refine vs_for (vi_range1 ?_)
      walk_at "v"
      refine ⟨_, rfl, ⟨by omega, by omega⟩, ?_⟩
      refine for_rng (fun t E o => o = [] ∧ ∃ x, E = [some (.tup ys), some (.tup ys), x]) ⟨rfl, _, rfl⟩ (fun t E o ht ⟨eo, x, eE⟩ => ?_) (fun E o ⟨eo, x, eE⟩ => ?_)
      · subst eo; subst eE
        have ht' : t < ys.length := by omega
        have e : L2.atI ys (0 + (t : Int)) = some ys[t] := by rw [Int.zero_add]; exact atI_nat (List.getElem?_eq_getElem ht')
        refine ⟨_, tg_n, ?_⟩
        walk_at "set"
        walk_at "v"
        refine x_tup e ?_
        walk_at "v"
        refine x_tup e ?_
        walk_at "v"
        refine vc_p (hc k rfl _ (List.all_eq_true.mp hy.2 _ (List.getElem_mem ht'))) ?_
        walk_at "v"
        exact ⟨rfl, _, rfl⟩
      · subst eo; subst eE
        walk_at "v"
  | lst ys => cases k <;> simp [smY] at hy
  | frz ys => cases k <;> simp [smY] at hy
  | ins c fs => cases k <;> simp [smY] at hy
  | own n => cases k <;> simp [smY] at hy
  | rg a b => cases k <;> simp [smY] at hy
theorem same_call {f : FD} {k : Nat} (h : Same k f) {y : Y} {o : OC} {Q : Y → OC → Prop} {X : XQ} (hs : smY k y = true) (q : Q (.bl true) o) : VF f [y, y] o Q X := vc_p (h y hs) q
def Gcd (f : FD) : Prop := ∀ (a b : Int) (k : Nat), 0 ≤ a → 0 ≤ b → a.natAbs < 2 ^ k → b.natAbs < 2 ^ k → 2 * k < 4990 → VP f [.int a, .int b] (.int ((Nat.gcd a.natAbs b.natAbs : Nat) : Int))
theorem gcd_step {a b : Int} (ha : 0 ≤ a) (hb : 0 < b) : Nat.gcd b.natAbs (a.fmod b).natAbs = Nat.gcd a.natAbs b.natAbs := by
  rw [Int.fmod_eq_emod_of_nonneg _ (by omega), Int.natAbs_emod_of_nonneg ha, Nat.gcd_comm, ← Nat.gcd_rec, Nat.gcd_comm]
theorem prod_step {a b : Int} {p : Nat} (hb : 0 < b) (hab : b ≤ a) (h : a.natAbs * b.natAbs < 2 ^ (p + 1)) : b.natAbs * (a.fmod b).natAbs < 2 ^ p := by
  obtain ⟨n, rfl⟩ : ∃ n : Nat, a = n := ⟨a.toNat, by omega⟩
  obtain ⟨m, rfl⟩ : ∃ m : Nat, b = m := ⟨b.toNat, by omega⟩
  rw [Int.fmod_eq_emod_of_nonneg _ (by omega), ← Int.natCast_emod]
  simp only [Int.natAbs_natCast] at h ⊢
  have h1 : n % m < m := Nat.mod_lt _ (by omega)
  have h2 : m + n % m ≤ n := by
    have h3 := Nat.mod_add_div n m
    have h4 : 1 ≤ n / m := (Nat.one_le_div_iff (by omega)).mpr (by omega)
    have h5 : m * 1 ≤ m * (n / m) := Nat.mul_le_mul_left _ h4
    omega
  have h6 : 2 * (n % m) ≤ n := by omega
  have h7 : m * (2 * (n % m)) ≤ m * n := Nat.mul_le_mul_left _ h6
  have h8 : m * (2 * (n % m)) = 2 * (m * (n % m)) := by rw [Nat.mul_left_comm]
  have h9 : m * n = n * m := Nat.mul_comm _ _
  rw [Nat.pow_succ] at h
  omega
theorem gcd_ok : Gcd P__law_gcd := fun a b k ha hb h1 h2 hk => by
  refine vp_run ?_
  walk_at "v0"
  walk_at "v"
  refine vs_for (vi_range1 ?_)
  walk_at "v"
  refine ⟨_, rfl, ⟨by omega, by omega⟩, ?_⟩
  refine for_rng (fun t E o => o = [] ∧ ∃ a' b' x y, E = [some (.int a'), some (.int b'), x, y] ∧ 0 ≤ a' ∧ 0 ≤ b' ∧ Nat.gcd a'.natAbs b'.natAbs = Nat.gcd a.natAbs b.natAbs ∧ (b' = 0 ∨ (t = 0 ∧ a' = a ∧ b' = b) ∨ (b' ≤ a' ∧ t ≤ 2 * k + 1 ∧ a'.natAbs * b'.natAbs < 2 ^ (2 * k + 2 - t)))) ⟨rfl, _, _, _, _, rfl, ha, hb, rfl, .inr (.inl ⟨rfl, rfl, rfl⟩)⟩ (fun t E o ht ⟨eo, a', b', x, y, eE, ha', hb', hg, hd⟩ => ?_) (fun E o ⟨eo, a', b', x, y, eE, ha', hb', hg, hd⟩ => ?_)
  · subst eo; subst eE
    refine ⟨_, tg_n, ?_⟩
    walk_at "set"
    walk_at "v"
    · rename_i hz
      subst hz
      congr 1
      rw [← hg, Int.natAbs_zero, Nat.gcd_zero_right]; omega
    · rename_i hz
      have hp : 0 < b' := by omega
      have hm := fmod_lt (a := a') hp
      refine ⟨rfl, _, _, _, _, rfl, hb', hm.1, (gcd_step ha' hp).trans hg, ?_⟩
      rcases hd with hd | ⟨e1, e2, e3⟩ | ⟨e1, e2, e3⟩
      · exact absurd hd hz
      · subst e1; subst e2; subst e3
        refine .inr (.inr ⟨by omega, by omega, ?_⟩)
        have h5 : (a'.fmod b').natAbs ≤ b'.natAbs := by omega
        have h6 : b'.natAbs * (a'.fmod b').natAbs ≤ b'.natAbs * b'.natAbs := Nat.mul_le_mul_left _ h5
        have h7 := pow_mul_lt h2 h2
        have h8 : (2 : Nat) ^ (k + k) ≤ 2 ^ (2 * k + 2 - (0 + 1)) := Nat.pow_le_pow_right (by decide) (by omega)
        omega
      · by_cases hr : a'.fmod b' = 0
        · exact .inl hr
        · refine .inr (.inr ⟨by omega, ?_, ?_⟩)
          · rcases Nat.lt_or_ge t (2 * k + 1) with h | h
            · omega
            · exfalso
              have h8 : 2 * k + 2 - t = 1 := by omega
              rw [h8] at e3
              have h9 := prod_step (p := 0) hp e1 e3
              have h10 : 1 ≤ b'.natAbs := by omega
              have h11 : 1 ≤ (a'.fmod b').natAbs := by omega
              have := Nat.mul_le_mul h10 h11
              omega
          · have h8 : 2 * k + 2 - t = 2 * k + 2 - (t + 1) + 1 := by omega
            rw [h8] at e3
            exact prod_step hp e1 e3
  · subst eo; subst eE
    walk_at "v"
    have hz : b' = 0 := by
      rcases hd with hd | ⟨e1, e2, e3⟩ | ⟨e1, e2, e3⟩
      · exact hd
      · exact absurd e1 (by decide)
      · exfalso
        have : Int.toNat 5000 = 5000 := rfl
        omega
    subst hz
    congr 1
    rw [← hg, Int.natAbs_zero, Nat.gcd_zero_right]; omega
def LRatio (f : FD) : Prop := ∀ (p q : Int) (k : Nat), q ≠ 0 → p.natAbs < 2 ^ k → q.natAbs < 2 ^ k → 2 * k < 4990 → VP f [.int p, .int q] (yR (Rat.divInt p q))
theorem abs_natAbs (a : Int) : (if a < 0 then -a else a) = ((a.natAbs : Nat) : Int) := by
  split <;> omega
theorem ratio_ok {c : FD} (hc : Gcd c) : LRatio (P__law_ratio c) := fun p q k h0 hp hq hk => by
  obtain ⟨d1, d2⟩ := cDiv_gcd (p := p) h0 hq (by omega)
  obtain ⟨e1, e2⟩ := divInt_parts (p := p) h0
  refine vp_run ?_
  walk_at "v0"
  walk_at "v"
  rw [abs_natAbs, abs_natAbs]
  refine vc_p (hc _ _ k (by omega) (by omega) (by rw [Int.natAbs_natCast]; exact hp) (by rw [Int.natAbs_natCast]; exact hq) hk) ?_
  rw [Int.natAbs_natCast, Int.natAbs_natCast]
  walk_at "v"
  · rename_i hn
    rw [if_pos hn] at e1 e2
    unfold yR
    rw [e1, e2]
  · rename_i hn
    rw [if_neg hn] at e1 e2
    unfold yR
    rw [e1, e2]
end
local macro_rules | `(tactic| walk_at "f1") => `(tactic| first
  | ((with_reducible refine' same_call (by assumption) ?hs ?_); (case hs => rfl)))
section
noncomputable def P_total (c_add : FD) : FD := fnRun (sSq (sAs (dC (.tup [(.int 0), (.int 1)])) (ofG (gN 1)))
    (sSq (sFor (iSeq (dV 0)) (gN 2) (sAs (dCall c_add (aC (dV 1) (aC (dV 2) aN)) []) (ofG (gN 1))))
    (sRt (dV 1)))) 3
noncomputable def P_dot (c_multiply : FD) (c_total : FD) : FD := fnRun (sRt (dCall c_total (aC (dLc (iZip (dV 0) (dV 1)) (gT [2, 3]) tY (dCall c_multiply (aC (dV 2) (aC (dV 3) aN)) []) [2, 3]) aN) [])) 4
def ABd (k : Nat) (xs : List Rat) : Prop := ∀ x ∈ xs, Bd k x
def totR (xs : List Rat) : Rat := xs.foldl (· + ·) 0
theorem totR_take {xs : List Rat} {t : Nat} (h : t < xs.length) : totR (xs.take (t + 1)) = totR (xs.take t) + xs[t] := by
  unfold totR
  rw [List.take_succ_eq_append_getElem h, List.foldl_append]
  rfl
theorem totR_bd {xs : List Rat} {k : Nat} (h : ABd k xs) : ∀ t, t ≤ xs.length → Bd (1 + t * (k + 1)) (totR (xs.take t)) := by
  intro t
  induction t with
  | zero => intro _; exact Bd.zero.mono (by omega)
  | succ t ih =>
    intro ht
    rw [totR_take (by omega)]
    refine ((ih (by omega)).add (h _ (List.getElem_mem (n := t) (by omega)))).mono ?_
    rw [Nat.succ_mul]; omega
def Total (f : FD) : Prop := ∀ {xs : List Rat} {k : Nat}, ABd k xs → (xs.length + 1) * (k + 1) < 8990 → VP f [.lst (xs.map yR)] (yR (totR xs))
theorem mul_le_of {t n k : Nat} (h : t < n) : t * (k + 1) + (k + 1) ≤ n * (k + 1) := by
  have := Nat.mul_le_mul_right (k + 1) (Nat.succ_le_of_lt h)
  rwa [Nat.succ_mul] at this
theorem total_ok {c : FD} (hc : Add c) : Total (P_total c) := fun {xs k} hx hk => by
  refine vp_run ?_
  walk_at "v0"
  walk_at "v"
  refine vs_for (vi_seq ?_)
  walk_at "v"
  refine ⟨_, _, .lst _, ?_⟩
  refine for_mapI (fun t E o => o = [] ∧ ∃ x, E = [some (.lst (xs.map yR)), some (yR (totR (xs.take t))), x]) ⟨rfl, _, rfl⟩ (fun t ht E o ⟨eo, x, eE⟩ => ?_) (fun E o ⟨eo, x, eE⟩ => ?_)
  · subst eo; subst eE
    refine ⟨_, tg_n, ?_⟩
    walk_at "set"
    have b1 := totR_bd hx t (by omega)
    have b2 := hx _ (List.getElem_mem (n := t) ht)
    have := mul_le_of (k := k) ht
    rw [Nat.succ_mul] at hk
    walk_at "v"
    rw [← totR_take]
    exact ⟨rfl, _, rfl⟩
  · subst eo; subst eE
    rw [List.take_length]
    walk_at "v"
theorem total_call {f : FD} {o : OC} {Q : Y → OC → Prop} {X : XQ} (h : Total f) {xs : List Rat} {k : Nat} (hx : ABd k xs) (hk : (xs.length + 1) * (k + 1) < 8990) (q : Q (yR (totR xs)) o) : VF f [.lst (xs.map yR)] o Q X := vc_p (h hx hk) q
def dotR (xs ys : List Rat) : Rat := totR ((xs.zip ys).map fun p => p.1 * p.2)
theorem ABd.zip {k l : Nat} {xs ys : List Rat} (hx : ABd k xs) (hy : ABd l ys) : ABd (k + l) ((xs.zip ys).map fun p => p.1 * p.2) := fun z hz => by
  obtain ⟨p, hp, e⟩ := List.mem_map.mp hz
  subst e
  have := List.of_mem_zip (show (p.1, p.2) ∈ xs.zip ys from hp)
  exact (hx _ this.1).mul (hy _ this.2)
def Dot (f : FD) : Prop := ∀ {xs ys : List Rat} {k l : Nat}, ABd k xs → ABd l ys → (min xs.length ys.length + 1) * (k + l + 1) < 8990 → VP f [.lst (xs.map yR), .lst (ys.map yR)] (yR (dotR xs ys))
theorem dot_ok {m t : FD} (hm : Mul m) (ht : Total t) : Dot (P_dot m t) := fun {xs ys k l} hx hy hk => by
  have hl : min xs.length ys.length + 1 < 8990 := Nat.lt_of_le_of_lt (Nat.le_mul_of_pos_right _ (by omega)) hk
  have hk2 : 1 * (k + l + 1) ≤ (min xs.length ys.length + 1) * (k + l + 1) := Nat.mul_le_mul_right _ (by omega)
  refine vp_run ?_
  walk_at "v0"
  walk_at "v"
  refine vE_Lc false (vi_zip ?_)
  walk_at "v"
  refine ⟨_, _, _, _, .lst _, .lst _, ?_⟩
  rw [zipW_map]
  refine lc_map (f := fun p => yR (p.1 * p.2)) (by rw [List.length_zip]; have : szl = 16777216 := rfl; omega) (fun p hp => ?_) ?_
  · have hp' := List.of_mem_zip (show (p.1, p.2) ∈ xs.zip ys from hp)
    have b1 := hx _ hp'.1
    have b2 := hy _ hp'.2
    refine ⟨_, tg_t rfl, ?_⟩
    dsimp only [wipeY, List.set, setY]
    walk_at "v"
    exact ⟨rfl, rfl⟩
  · refine NL.fz ?_
    walk_at "v"
    have e : (List.map (fun p => yR (p.fst * p.snd)) (xs.zip ys)) = (((xs.zip ys).map fun p => p.1 * p.2)).map yR := by rw [List.map_map]; rfl
    rw [e]
    refine total_call ht (hx.zip hy) (by rw [List.length_map, List.length_zip]; exact hk) ?_
    walk_at "v"
    rfl
theorem getD_eq {xs : List Rat} {t : Nat} (h : t < xs.length) : xs.getD t 0 = xs[t] := by simp [List.getD, h]
end
section
abbrev WI (xs : List Int) : C := .lst (xs.map .int)
def Draws (f : FD) : Prop := ∀ ns : List Int, ns.length ≤ 63 → (∀ z ∈ ns, z.natAbs < 2 ^ 1048577) → VF f [.frz (ns.map .int)] [] (fun y o => ∃ n xs, y = .own n ∧ o = [(n, WI xs)]) noq
end
section
def LDotL (f : FD) : Prop := ∀ {xs ys : List Rat} {k l : Nat} {o : OC} {x y : Y}, ABd k xs → ABd l ys → (min xs.length ys.length + 1) * (k + l + 1) < 2300 → Ls o x (xs.map yR) → Ls o y (ys.map yR) → VF f [x, y] o (fun r o2 => r = yR (dotR xs ys) ∧ o2 = o) noq
theorem LDotL.p {f : FD} (h : LDotL f) {xs ys : List Rat} {k l : Nat} (hx : ABd k xs) (hy : ABd l ys) (hk : (min xs.length ys.length + 1) * (k + l + 1) < 2300) : VP f [.lst (xs.map yR), .lst (ys.map yR)] (yR (dotR xs ys)) := h hx hy hk (.lst _) (.lst _)
end
section
inductive Wd where
  | le | ge | eq
  deriving DecidableEq
def Wd.s : Wd → Str
  | .le => "at most"
  | .ge => "at least"
  | .eq => "exactly"
structure PRow where
  ns : List Rat
  w : Wd
  b : Rat
structure Prg where
  n : Nat
  fr : List Bool
  g : List Rat
  rs : List PRow
abbrev yRs (xs : List Rat) : Y := .lst (xs.map yR)
theorem dotR_bd {xs ys : List Rat} {k l : Nat} (hx : ABd k xs) (hy : ABd l ys) : Bd (1 + min xs.length ys.length * (k + l + 1)) (dotR xs ys) := by
  have h := totR_bd (hx.zip hy) _ (Nat.le_refl _)
  rw [List.take_length] at h
  rw [List.length_map, List.length_zip] at h
  exact h
theorem cmpR_ne0 {a b : Rat} : cmpR a b ≠ 0 ↔ a ≠ b := by
  unfold cmpR
  by_cases h1 : b < a
  · rw [if_pos h1]; simp; exact fun h => by rw [h] at h1; exact Rat.lt_irrefl h1
  · by_cases h2 : a < b
    · rw [if_neg h1, if_pos h2]; simp; exact fun h => by rw [h] at h2; exact Rat.lt_irrefl h2
    · rw [if_neg h1, if_neg h2]; simp; exact Rat.le_antisymm (Rat.not_lt.mp h1) (Rat.not_lt.mp h2)
def Prg.more (p : Prg) (rs : List PRow) : Prg := { p with rs := p.rs ++ rs }
end
section
theorem ABd.mono {k l : Nat} {xs : List Rat} (h : ABd k xs) (hl : k ≤ l) : ABd l xs := fun x hx => (h x hx).mono hl
theorem range_no {m t : Nat} {f : Nat → Bool} (ht : t < m) (h : f t = false) : (List.range m).all f = false := by
  cases e : (List.range m).all f with
  | false => rfl
  | true => rw [List.all_eq_true.mp e t (List.mem_range.mpr ht)] at h; cases h
theorem range_all {m : Nat} {f : Nat → Bool} (h : ∀ t, t < m → f t = true) : (List.range m).all f = true := by
  rw [List.all_eq_true]
  exact fun t ht => h t (List.mem_range.mp ht)
end
section
end
section
end
section
def Bc (D M : Nat) (q : Rat) : Prop := ∃ z : Int, q * (D : Rat) = (z : Rat) ∧ z.natAbs ≤ M
theorem rat_ne0 {D : Nat} (h0 : 0 < D) : (D : Rat) ≠ 0 := by
  intro z
  have : ((D : Nat) : Rat) = ((0 : Nat) : Rat) := z
  have := Rat.natCast_inj.mp this
  omega
theorem Bc.mono {D M N : Nat} {q : Rat} (h : Bc D M q) (hl : M ≤ N) : Bc D N q := by
  obtain ⟨z, e, hz⟩ := h
  exact ⟨z, e, Nat.le_trans hz hl⟩
theorem Bc.zero (D : Nat) : Bc D 0 0 := ⟨0, by rw [Rat.zero_mul]; rfl, Nat.le_refl _⟩
theorem Bc.add {D M N : Nat} {a b : Rat} (ha : Bc D M a) (hb : Bc D N b) : Bc D (M + N) (a + b) := by
  obtain ⟨y, e1, h1⟩ := ha
  obtain ⟨z, e2, h2⟩ := hb
  refine ⟨y + z, ?_, Nat.le_trans (Int.natAbs_add_le _ _) (Nat.add_le_add h1 h2)⟩
  rw [Rat.add_mul, e1, e2, Rat.intCast_add]
theorem Bc.neg {D M : Nat} {a : Rat} (ha : Bc D M a) : Bc D M (-a) := by
  obtain ⟨y, e1, h1⟩ := ha
  refine ⟨-y, ?_, by rw [Int.natAbs_neg]; exact h1⟩
  rw [Rat.neg_mul, e1, Rat.intCast_neg]
theorem Bc.sub {D M N : Nat} {a b : Rat} (ha : Bc D M a) (hb : Bc D N b) : Bc D (M + N) (a - b) := by
  rw [Rat.sub_eq_add_neg]
  exact ha.add hb.neg
theorem Bc.bd {D M k : Nat} {q : Rat} (h : Bc D M q) (h0 : 0 < D) (h1 : M < 2 ^ k) (h2 : D < 2 ^ k) : Bd k q := by
  obtain ⟨z, e, hz⟩ := h
  have hD := rat_ne0 h0
  have : q = Rat.divInt z (D : Int) := by
    rw [Rat.divInt_eq_div, ← e]
    show q = q * (D : Rat) / ((D : Int) : Rat)
    rw [show (((D : Nat) : Int) : Rat) = (D : Rat) from rfl, Rat.div_def, Rat.mul_assoc, Rat.mul_inv_cancel _ hD, Rat.mul_one]
  rw [this]
  exact Bd.divInt (by omega) (by omega) (by rw [Int.natAbs_natCast]; exact h2)
end
section
theorem mapR_at {xs : List Rat} {i : Nat} (h : i < xs.length) : (xs.map yR)[i]? = some (yR (xs.getD i 0)) := by
  rw [List.getElem?_map, List.getElem?_eq_getElem h, List.getD_eq_getElem?_getD, List.getElem?_eq_getElem h]
  rfl
end
section
def dF : List Rat → (Nat → Rat) → Rat
  | [], _ => 0
  | a :: l, x => a * x 0 + dF l fun i => x (i + 1)
abbrev at0 (l : List Rat) (j : Nat) : Rat := l.getD j 0
def redL (l : List Rat) (f : Rat) (o : List Rat) : List Rat := List.zipWith (fun x y => x - f * y) l o
def divL (l : List Rat) (f : Rat) : List Rat := l.map fun x => x / f
theorem dF_red (f : Rat) : ∀ (l o : List Rat) (x : Nat → Rat), l.length = o.length → dF (redL l f o) x = dF l x - f * dF o x
  | [], [], x, _ => by show (0 : Rat) = 0 - f * 0; grind
  | a :: l, b :: o, x, h => by
    show (a - f * b) * x 0 + dF (redL l f o) (fun i => x (i + 1)) = (a * x 0 + dF l fun i => x (i + 1)) - f * (b * x 0 + dF o fun i => x (i + 1))
    rw [dF_red f l o _ (by simpa using h)]
    grind
theorem dF_div (f : Rat) : ∀ (l : List Rat) (x : Nat → Rat), dF (divL l f) x = dF l x / f
  | [], x => by show (0 : Rat) = 0 / f; grind
  | a :: l, x => by
    show a / f * x 0 + dF (divL l f) (fun i => x (i + 1)) = (a * x 0 + dF l fun i => x (i + 1)) / f
    rw [dF_div f l]
    grind
theorem dF_add : ∀ (l : List Rat) (x y : Nat → Rat), dF l (fun i => x i + y i) = dF l x + dF l y
  | [], x, y => by show (0 : Rat) = 0 + 0; grind
  | a :: l, x, y => by
    show a * (x 0 + y 0) + dF l (fun i => x (i + 1) + y (i + 1)) = (a * x 0 + dF l fun i => x (i + 1)) + (a * y 0 + dF l fun i => y (i + 1))
    rw [dF_add l (fun i => x (i + 1)) fun i => y (i + 1)]
    grind
theorem dF_zero : ∀ (l : List Rat), dF l (fun _ => 0) = 0
  | [] => rfl
  | a :: l => by
    show a * 0 + dF l (fun _ => 0) = 0
    rw [dF_zero l]
    grind
theorem dF_congr : ∀ (l : List Rat) {x y : Nat → Rat}, (∀ i, i < l.length → x i = y i) → dF l x = dF l y
  | [], _, _, _ => rfl
  | a :: l, x, y, h => by
    show a * x 0 + dF l (fun i => x (i + 1)) = a * y 0 + dF l fun i => y (i + 1)
    rw [h 0 (by rw [List.length_cons]; omega), dF_congr l fun i hi => h (i + 1) (by rw [List.length_cons]; omega)]
theorem dF_one : ∀ (l : List Rat) (j : Nat) (v : Rat), dF l (fun i => if i = j then v else 0) = at0 l j * v
  | [], j, v => by show (0 : Rat) = 0 * v; grind
  | a :: l, 0, v => by
    show a * v + dF l (fun i => if i + 1 = 0 then v else 0) = a * v
    rw [dF_congr l (y := fun _ => 0) fun i _ => if_neg (by omega), dF_zero]
    grind
  | a :: l, j + 1, v => by
    show a * 0 + dF l (fun i => if i + 1 = j + 1 then v else 0) = at0 l j * v
    rw [dF_congr l (y := fun i => if i = j then v else 0) fun i _ => by simp only [Nat.add_right_cancel_iff], dF_one l j v]
    grind
theorem red_len (l : List Rat) (f : Rat) (o : List Rat) (h : l.length = o.length) : (redL l f o).length = l.length := by
  unfold redL
  rw [List.length_zipWith, ← h, Nat.min_self]
theorem red_at (f : Rat) : ∀ (l o : List Rat) (j : Nat), l.length = o.length → at0 (redL l f o) j = at0 l j - f * at0 o j
  | [], [], j, _ => by show (0 : Rat) = 0 - f * 0; grind
  | a :: l, b :: o, 0, _ => rfl
  | a :: l, b :: o, j + 1, h => red_at f l o j (by simpa using h)
theorem div_at (f : Rat) : ∀ (l : List Rat) (j : Nat), at0 (divL l f) j = at0 l j / f
  | [], j => by show (0 : Rat) = 0 / f; grind
  | a :: l, 0 => rfl
  | a :: l, j + 1 => div_at f l j
theorem red_zero : ∀ (l o : List Rat), l.length = o.length → redL l 0 o = l
  | [], [], _ => rfl
  | a :: l, b :: o, h => by
    show (a - 0 * b) :: redL l 0 o = a :: l
    rw [red_zero l o (by simpa using h)]
    congr 1
    grind
structure Tb where
  lines : List (List Rat)
  gains : List Rat
  basis : List Nat
abbrev Tb.ln (T : Tb) (i : Nat) : List Rat := T.lines.getD i []
abbrev Tb.bs (T : Tb) (i : Nat) : Nat := T.basis.getD i 0
def Ker (L : List (List Rat)) (x : Nat → Rat) : Prop := ∀ l ∈ L, dF l x = 0
structure TbI (L0 : List (List Rat)) (cst : List Rat) (W : Nat) (T : Tb) : Prop where
  ll : T.lines.length = L0.length
  lw : ∀ l ∈ T.lines, l.length = W + 1
  bl : T.basis.length = L0.length
  gl : T.gains.length = W + 1
  id : ∀ i k, i < L0.length → k < L0.length → at0 (T.ln i) (T.bs k) = if i = k then 1 else 0
  gb : ∀ k, k < L0.length → at0 T.gains (T.bs k) = 0
  bw : ∀ k, k < L0.length → T.bs k < W
  kr : ∀ x, Ker T.lines x ↔ Ker L0 x
  kg : ∀ x, Ker L0 x → dF T.gains x = dF cst x
  nn : ∀ i, i < L0.length → 0 ≤ at0 (T.ln i) W
theorem getD_memS {α : Type} {l : List α} {i : Nat} {d : α} (h : i < l.length) : l.getD i d = l[i] := by
  rw [List.getD_eq_getElem?_getD, List.getElem?_eq_getElem h]; rfl
theorem ker_iff {L : List (List Rat)} {x : Nat → Rat} : Ker L x ↔ ∀ i, i < L.length → dF (L.getD i []) x = 0 := by
  constructor
  · intro h i hi
    rw [getD_memS hi]
    exact h _ (List.getElem_mem hi)
  · intro h l hl
    obtain ⟨i, hi, rfl⟩ := List.getElem_of_mem hl
    have := h i hi
    rwa [getD_memS hi] at this
def pivT (T : Tb) (r c : Nat) : Tb where
  lines := T.lines.mapIdx fun i l => if i = r then divL (T.ln r) (at0 (T.ln r) c) else redL l (at0 l c) (divL (T.ln r) (at0 (T.ln r) c))
  gains := redL T.gains (at0 T.gains c) (divL (T.ln r) (at0 (T.ln r) c))
  basis := T.basis.set r c
theorem piv_ln {T : Tb} {r c i : Nat} (hi : i < T.lines.length) : (pivT T r c).ln i = if i = r then divL (T.ln r) (at0 (T.ln r) c) else redL (T.ln i) (at0 (T.ln i) c) (divL (T.ln r) (at0 (T.ln r) c)) := by
  show (T.lines.mapIdx _).getD i [] = _
  rw [getD_memS (by rw [List.length_mapIdx]; exact hi), List.getElem_mapIdx]
  show _ = if i = r then _ else redL (T.lines.getD i []) (at0 (T.lines.getD i []) c) _
  rw [getD_memS hi]
theorem divL_len (l : List Rat) (f : Rat) : (divL l f).length = l.length := List.length_map ..
theorem piv_ok {L0 : List (List Rat)} {cst : List Rat} {W : Nat} {T : Tb} (h : TbI L0 cst W T) {r c : Nat} (hr : r < L0.length) (hc : c < W) (ha : at0 (T.ln r) c ≠ 0)
    (hb : (0 < at0 (T.ln r) c ∧ ∀ i, i < L0.length → 0 < at0 (T.ln i) c → at0 (T.ln r) W / at0 (T.ln r) c ≤ at0 (T.ln i) W / at0 (T.ln i) c) ∨ at0 (T.ln r) W = 0) : TbI L0 cst W (pivT T r c) := by
  have hl := h.ll
  have hlw : ∀ i, i < L0.length → (T.ln i).length = W + 1 := fun i hi => by
    show (T.lines.getD i []).length = _
    rw [getD_memS (by omega)]
    exact h.lw _ (List.getElem_mem _)
  have hlr := hlw r hr
  have hdl : (divL (T.ln r) (at0 (T.ln r) c)).length = W + 1 := by rw [divL_len]; exact hlr
  have hbs : ∀ k, k < L0.length → (pivT T r c).bs k = if k = r then c else T.bs k := fun k hk => by
    show (T.basis.set r c).getD k 0 = _
    rw [List.getD_eq_getElem?_getD]
    by_cases z : k = r
    · subst z
      rw [List.getElem?_set_self (by rw [h.bl]; exact hk), if_pos rfl]; rfl
    · rw [List.getElem?_set_ne (fun e => z e.symm), if_neg z, ← List.getD_eq_getElem?_getD]
  have hat : ∀ i j, i < L0.length → at0 ((pivT T r c).ln i) j = if i = r then at0 (T.ln r) j / at0 (T.ln r) c else at0 (T.ln i) j - at0 (T.ln i) c * (at0 (T.ln r) j / at0 (T.ln r) c) := fun i j hi => by
    rw [piv_ln (by omega)]
    split
    · rw [div_at]
    · rw [red_at _ _ _ _ (by rw [hlw i hi, hdl]), div_at]
  have hgt : ∀ j, at0 (pivT T r c).gains j = at0 T.gains j - at0 T.gains c * (at0 (T.ln r) j / at0 (T.ln r) c) := fun j => by
    show at0 (redL _ _ _) j = _
    rw [red_at _ _ _ _ (by rw [h.gl, hdl]), div_at]
  have hrb : ∀ k, k < L0.length → k ≠ r → at0 (T.ln r) (T.bs k) = 0 := fun k hk hne => by rw [h.id r k hr hk, if_neg (fun e => hne e.symm)]
  refine ⟨by show (T.lines.mapIdx _).length = _; rw [List.length_mapIdx]; exact hl, fun l hm => ?_, by show (T.basis.set r c).length = _; rw [List.length_set]; exact h.bl, by show (redL _ _ _).length = _; rw [red_len _ _ _ (by rw [h.gl, hdl])]; exact h.gl, fun i k hi hk => ?_, fun k hk => ?_, fun k hk => ?_, fun x => ?_, fun x hx => ?_, fun i hi => ?_⟩
  · obtain ⟨i, hi, rfl⟩ := List.getElem_of_mem hm
    have hi2 : i < T.lines.length := by rw [show (pivT T r c).lines.length = T.lines.length from List.length_mapIdx] at hi; exact hi
    have := piv_ln (T := T) (r := r) (c := c) hi2
    rw [show (pivT T r c).ln i = (pivT T r c).lines[i] from getD_memS hi] at this
    rw [this]
    split
    · exact hdl
    · rw [red_len _ _ _ (by rw [hlw i (by omega), hdl])]; exact hlw i (by omega)
  · rw [hbs k hk, hat i _ hi]
    by_cases zk : k = r
    · subst zk
      rw [if_pos rfl]
      by_cases zi : i = k
      · subst zi; rw [if_pos rfl, if_pos rfl]; grind
      · rw [if_neg zi, if_neg zi]; grind
    · rw [if_neg zk, hrb k hk zk]
      by_cases zi : i = r
      · subst zi
        rw [if_pos rfl, if_neg (fun e => zk e.symm)]; grind
      · rw [if_neg zi, h.id i k hi hk]; grind
  · rw [hbs k hk, hgt]
    by_cases zk : k = r
    · rw [if_pos zk]; grind
    · rw [if_neg zk, hrb k hk zk, h.gb k hk]; grind
  · rw [hbs k hk]
    split
    · exact hc
    · exact h.bw k hk
  · rw [← h.kr x]
    rw [ker_iff, ker_iff, show (pivT T r c).lines.length = T.lines.length from List.length_mapIdx]
    have hd : ∀ i, i < T.lines.length → dF ((pivT T r c).lines.getD i []) x = if i = r then dF (T.ln r) x / at0 (T.ln r) c else dF (T.ln i) x - at0 (T.ln i) c * (dF (T.ln r) x / at0 (T.ln r) c) := fun i hi => by
      have := piv_ln (T := T) (r := r) (c := c) hi
      rw [show (pivT T r c).lines.getD i [] = (pivT T r c).ln i from rfl, this]
      split
      · rw [dF_div]
      · rw [dF_red _ _ _ _ (by rw [hlw i (by omega), hdl]), dF_div]
    constructor
    · intro q i hi
      have q1 := q r (by omega)
      rw [hd r (by omega), if_pos rfl] at q1
      have q0 : dF (T.ln r) x = 0 := by grind
      have q2 := q i hi
      rw [hd i hi] at q2
      by_cases z : i = r
      · rw [z]; exact q0
      · rw [if_neg z, q0] at q2
        show dF (T.ln i) x = 0
        grind
    · intro q i hi
      rw [hd i hi, show dF (T.ln r) x = 0 from q r (by omega)]
      split
      · grind
      · rw [show dF (T.ln i) x = 0 from q i hi]; grind
  · have q0 : dF (T.ln r) x = 0 := by
      have := (h.kr x).mpr hx
      rw [ker_iff] at this
      exact this r (by omega)
    show dF (redL _ _ _) x = _
    rw [dF_red _ _ _ _ (by rw [h.gl, hdl]), dF_div, q0, h.kg x hx]
    grind
  · rw [hat i W hi]
    have n1 := h.nn r hr
    have n2 := h.nn i hi
    rcases hb with ⟨p, q⟩ | z
    · have hdiv : 0 ≤ at0 (T.ln r) W / at0 (T.ln r) c := by
        rw [Rat.div_def]
        exact Rat.mul_nonneg n1 (Rat.le_of_lt (Rat.inv_pos.mpr p))
      split
      · exact hdiv
      · by_cases w : 0 < at0 (T.ln i) c
        · have := q i hi w
          have h3 := Rat.mul_le_mul_of_nonneg_left this (Rat.le_of_lt w)
          have h4 : at0 (T.ln i) c * (at0 (T.ln i) W / at0 (T.ln i) c) = at0 (T.ln i) W := by
            have : at0 (T.ln i) c ≠ 0 := fun e => by rw [e] at w; exact absurd w (by decide)
            grind
          rw [h4] at h3
          grind
        · have w := Rat.not_lt.mp w
          have := Rat.mul_le_mul_of_nonneg_right w hdiv
          grind
    · rw [z]
      split
      · have : (0 : Rat) / at0 (T.ln r) c = 0 := by grind
        rw [this]; exact Rat.le_refl
      · have : at0 (T.ln i) W - at0 (T.ln i) c * (0 / at0 (T.ln r) c) = at0 (T.ln i) W := by grind
        rw [this]; exact n2
end
section
def sB (f : Nat → Rat) : Nat → Rat
  | 0 => 0
  | m + 1 => sB f m + f m
theorem sB_congr {f g : Nat → Rat} : ∀ {m : Nat}, (∀ i, i < m → f i = g i) → sB f m = sB g m
  | 0, _ => rfl
  | m + 1, h => by unfold sB; rw [sB_congr fun i hi => h i (by omega), h m (by omega)]
theorem sB_zero {f : Nat → Rat} : ∀ {m : Nat}, (∀ i, i < m → f i = 0) → sB f m = 0
  | 0, _ => rfl
  | m + 1, h => by unfold sB; rw [sB_zero fun i hi => h i (by omega), h m (by omega)]; exact Rat.add_zero 0
theorem sB_one {f : Nat → Rat} {r : Nat} : ∀ {m : Nat}, r < m → (∀ i, i < m → i ≠ r → f i = 0) → sB f m = f r
  | m + 1, hr, h => by
    unfold sB
    by_cases z : r = m
    · subst z
      rw [sB_zero fun i hi => h i (by omega) (by omega)]; exact Rat.zero_add _
    · rw [sB_one (by omega) fun i hi => h i (by omega), h m (by omega) (fun e => z e.symm)]; exact Rat.add_zero _
theorem dF_sB (l : List Rat) (b : Nat → Nat) (v : Nat → Rat) : ∀ m, dF l (fun j => sB (fun i => if j = b i then v i else 0) m) = sB (fun i => v i * at0 l (b i)) m
  | 0 => dF_zero l
  | m + 1 => by
    show dF l (fun j => sB (fun i => if j = b i then v i else 0) m + (if j = b m then v m else 0)) = sB (fun i => v i * at0 l (b i)) m + v m * at0 l (b m)
    rw [dF_add, dF_sB l b v m, dF_one]
    grind
section
variable {L0 : List (List Rat)} {cst : List Rat} {W : Nat} {T : Tb}
end
def scanG (T : Tb) (last : Nat) : Nat → Nat → Nat
  | 0, c => c
  | n + 1, c => if c < last ∧ at0 T.gains c ≤ 0 then scanG T last n (c + 1) else c
abbrev scanC (T : Tb) (last : Nat) : Nat := scanG T last last 0
abbrev ratT (T : Tb) (W c i : Nat) : Rat := at0 (T.ln i) W / at0 (T.ln i) c
def leavG (T : Tb) (W c : Nat) : Nat → Option Nat
  | 0 => none
  | t + 1 => match leavG T W c t with
    | none => if 0 < at0 (T.ln t) c then some t else none
    | some b => if 0 < at0 (T.ln t) c ∧ (ratT T W c t < ratT T W c b ∨ (ratT T W c t = ratT T W c b ∧ T.bs t < T.bs b)) then some t else some b
def simS (W m last : Nat) (T : Tb) : Option Tb := if scanC T last < last then (leavG T W (scanC T last) m).map fun r => pivT T r (scanC T last) else none
end
section
section
variable {L0 : List (List Rat)} {cst : List Rat} {W last n : Nat} {run : Nat → Tb}
theorem piv_bs {T : Tb} {r c k : Nat} (hk : k < T.basis.length) : (pivT T r c).bs k = if k = r then c else T.bs k := by
  show (T.basis.set r c).getD k 0 = _
  rw [List.getD_eq_getElem?_getD]
  by_cases z : k = r
  · subst z
    rw [List.getElem?_set_self hk, if_pos rfl]; rfl
  · rw [List.getElem?_set_ne (fun e => z e.symm), if_neg z, ← List.getD_eq_getElem?_getD]
theorem piv_atW {T : Tb} (h : TbI L0 cst W T) {r c i : Nat} (hr : r < L0.length) (hi : i < L0.length) (j : Nat) : at0 ((pivT T r c).ln i) j = if i = r then at0 (T.ln r) j / at0 (T.ln r) c else at0 (T.ln i) j - at0 (T.ln i) c * (at0 (T.ln r) j / at0 (T.ln r) c) := by
  have hlw : ∀ i, i < L0.length → (T.ln i).length = W + 1 := fun i hi => by
    show (T.lines.getD i []).length = _
    rw [getD_memS (by rw [h.ll]; exact hi)]
    exact h.lw _ (List.getElem_mem _)
  rw [piv_ln (by rw [h.ll]; exact hi)]
  split
  · rw [div_at]
  · rw [red_at _ _ _ _ (by rw [hlw i hi, divL_len, hlw r hr]), div_at]
end
end
section
theorem pigN : ∀ (N : Nat) (f : Nat → Nat), (∀ k, k ≤ N → f k < N) → ∃ i j, i < j ∧ j ≤ N ∧ f i = f j
  | 0, f, h => absurd (h 0 (Nat.le_refl _)) (Nat.not_lt_zero _)
  | N + 1, f, h => by
    by_cases z : ∃ i, i ≤ N ∧ f i = f (N + 1)
    · obtain ⟨i, hi, e⟩ := z
      exact ⟨i, N + 1, by omega, Nat.le_refl _, e⟩
    · have hz : ∀ i, i ≤ N → f i ≠ f (N + 1) := fun i hi e => z ⟨i, hi, e⟩
      have hl := h (N + 1) (Nat.le_refl _)
      obtain ⟨i, j, h1, h2, h3⟩ := pigN N (fun k => if f k = N then f (N + 1) else f k) fun k hk => by
        have := h k (by omega)
        have := hz k hk
        show (if f k = N then f (N + 1) else f k) < N
        split <;> omega
      refine ⟨i, j, h1, by omega, ?_⟩
      have a := hz i (by omega)
      have b := hz j h2
      have h3 : (if f i = N then f (N + 1) else f i) = if f j = N then f (N + 1) else f j := h3
      split at h3 <;> split at h3 <;> omega
def codeB (W : Nat) : List Nat → Nat
  | [] => 0
  | b :: l => b + W * codeB W l
theorem codeB_lt {W : Nat} : ∀ {l : List Nat}, (∀ b ∈ l, b < W) → codeB W l < W ^ l.length
  | [], _ => Nat.one_pos
  | b :: l, h => by
    have h1 := h b List.mem_cons_self
    have h2 := codeB_lt (l := l) fun b hb => h b (List.mem_cons_of_mem _ hb)
    show b + W * codeB W l < W ^ (l.length + 1)
    rw [Nat.pow_succ, Nat.mul_comm _ W]
    have : W * (codeB W l + 1) ≤ W * W ^ l.length := Nat.mul_le_mul_left W h2
    rw [Nat.mul_add, Nat.mul_one] at this
    omega
theorem codeB_inj {W : Nat} : ∀ {l l' : List Nat}, l.length = l'.length → (∀ b ∈ l, b < W) → (∀ b ∈ l', b < W) → codeB W l = codeB W l' → l = l'
  | [], [], _, _, _, _ => rfl
  | b :: l, b' :: l', hl, h, h', e => by
    have h1 := h b List.mem_cons_self
    have h1' := h' b' List.mem_cons_self
    have e : b + W * codeB W l = b' + W * codeB W l' := e
    have m1 : (b + W * codeB W l) % W = b := by rw [Nat.add_mul_mod_self_left, Nat.mod_eq_of_lt h1]
    have m2 : (b' + W * codeB W l') % W = b' := by rw [Nat.add_mul_mod_self_left, Nat.mod_eq_of_lt h1']
    have eb : b = b' := by rw [← m1, e, m2]
    subst eb
    have e2 : W * codeB W l = W * codeB W l' := by omega
    rw [codeB_inj (by simpa using hl) (fun b hb => h b (List.mem_cons_of_mem _ hb)) (fun b hb => h' b (List.mem_cons_of_mem _ hb)) (Nat.eq_of_mul_eq_mul_left (by omega) e2)]
section
variable {L0 : List (List Rat)} {cst : List Rat} {W last : Nat} {T : Tb}
def runO (W m last : Nat) (T : Tb) : Nat → Tb
  | 0 => T
  | k + 1 => (simS W m last (runO W m last T k)).getD (runO W m last T k)
end
end
section
def sZ (f : Nat → Int) : Nat → Int
  | 0 => 0
  | n + 1 => sZ f n + f n
theorem sZ_sub (f g : Nat → Int) : ∀ n, sZ (fun t => f t - g t) n = sZ f n - sZ g n
  | 0 => rfl
  | n + 1 => by
    show sZ _ n + (f n - g n) = (sZ f n + f n) - (sZ g n + g n)
    rw [sZ_sub f g n]; omega
theorem sZ_congr {f g : Nat → Int} : ∀ {n : Nat}, (∀ t, t < n → f t = g t) → sZ f n = sZ g n
  | 0, _ => rfl
  | n + 1, h => by
    show sZ f n + f n = sZ g n + g n
    rw [sZ_congr fun t ht => h t (by omega), h n (by omega)]
theorem sZ_bd {f : Nat → Int} {K : Nat} : ∀ {n : Nat}, (∀ t, t < n → (f t).natAbs ≤ K) → (sZ f n).natAbs ≤ n * K
  | 0, _ => by show (0 : Int).natAbs ≤ _; rw [Nat.zero_mul]; exact Nat.le_refl _
  | n + 1, h => by
    show (sZ f n + f n).natAbs ≤ (n + 1) * K
    have h1 := sZ_bd (n := n) fun t ht => h t (by omega)
    have h2 := h n (by omega)
    have := Int.natAbs_add_le (sZ f n) (f n)
    rw [Nat.succ_mul]
    omega
def dig (B : Nat) : Nat → Nat → List Nat
  | 0, _ => []
  | n + 1, k => k % B :: dig B n (k / B)
theorem dig_len (B : Nat) : ∀ n k, (dig B n k).length = n
  | 0, _ => rfl
  | n + 1, k => by show (dig B n (k / B)).length + 1 = n + 1; rw [dig_len B n]
theorem dig_lt {B : Nat} (h : 0 < B) : ∀ n k, ∀ b ∈ dig B n k, b < B
  | 0, _, b, hb => by cases hb
  | n + 1, k, b, hb => by
    rcases List.mem_cons.mp hb with e | hb
    · rw [e]; exact Nat.mod_lt _ h
    · exact dig_lt h n _ b hb
theorem dig_code {B : Nat} : ∀ n k, k < B ^ n → codeB B (dig B n k) = k
  | 0, k, h => by
    rw [Nat.pow_zero] at h
    show 0 = k
    omega
  | n + 1, k, h => by
    show k % B + B * codeB B (dig B n (k / B)) = k
    rw [dig_code n (k / B) (by rw [Nat.pow_succ] at h; exact Nat.div_lt_of_lt_mul (by rw [Nat.mul_comm]; exact h))]
    exact Nat.mod_add_div k B
theorem dig_at {B : Nat} (h : 0 < B) {n k t : Nat} (ht : t < n) : (dig B n k).getD t 0 < B := by
  rw [getD_memS (by rw [dig_len]; exact ht)]
  exact dig_lt h n k _ (List.getElem_mem _)
theorem siegel (m M : Nat) (A : Nat → Nat → Int) (hA : ∀ i, i < m → ∀ t, t < m + 1 → (A i t).natAbs ≤ M) : ∃ x : Nat → Int, (∃ t, t < m + 1 ∧ x t ≠ 0) ∧ (∀ t, t < m + 1 → (x t).natAbs ≤ (2 * ((m + 1) * M) + 1) ^ m) ∧ ∀ i, i < m → sZ (fun t => A i t * x t) (m + 1) = 0 := by
  obtain ⟨N, hN⟩ : ∃ N, N = (2 * ((m + 1) * M) + 1) ^ m := ⟨_, rfl⟩
  rw [← hN]
  let X : Nat → Nat → Int := fun k t => (((dig (N + 1) (m + 1) k).getD t 0 : Nat) : Int)
  have hX : ∀ k t, t < m + 1 → 0 ≤ X k t ∧ X k t ≤ N := fun k t ht => by
    have h1 : (dig (N + 1) (m + 1) k).getD t 0 < N + 1 := dig_at (Nat.succ_pos N) ht
    show 0 ≤ (((dig (N + 1) (m + 1) k).getD t 0 : Nat) : Int) ∧ (((dig (N + 1) (m + 1) k).getD t 0 : Nat) : Int) ≤ N
    omega
  let y : Nat → Nat → Int := fun k i => sZ (fun t => A i t * X k t) (m + 1)
  have hy : ∀ k i, i < m → (y k i).natAbs ≤ (m + 1) * M * N := fun k i hi => by
    have : (y k i).natAbs ≤ (m + 1) * (M * N) := sZ_bd fun t ht => by
      have h1 := hX k t ht
      rw [Int.natAbs_mul]
      exact Nat.mul_le_mul (hA i hi t ht) (by omega)
    rw [Nat.mul_assoc]; exact this
  obtain ⟨K, hK⟩ : ∃ K, K = (m + 1) * M * N := ⟨_, rfl⟩
  rw [← hK] at hy
  let cl : Nat → List Nat := fun k => (List.range m).map fun i => (y k i + K).toNat
  have hcl : ∀ k, ∀ b ∈ cl k, b < 2 * K + 1 := fun k b hb => by
    obtain ⟨i, hi, rfl⟩ := List.mem_map.mp hb
    have := hy k i (List.mem_range.mp hi)
    omega
  have hcn : ∀ k, (cl k).length = m := fun k => by
    show ((List.range m).map _).length = m
    rw [List.length_map, List.length_range]
  obtain ⟨i, j, hij, hj, e⟩ := pigN ((2 * K + 1) ^ m) (fun k => codeB (2 * K + 1) (cl k)) fun k _ => by
    have := codeB_lt (hcl k)
    rw [hcn] at this
    exact this
  have ec := codeB_inj (by rw [hcn, hcn]) (hcl i) (hcl j) e
  have hP : (2 * K + 1) ^ m < (N + 1) ^ (m + 1) := by
    have h1 : 2 * K + 1 ≤ (2 * ((m + 1) * M) + 1) * (N + 1) := by
      rw [hK]
      generalize (m + 1) * M = Q
      rw [Nat.add_mul, Nat.mul_add, Nat.mul_assoc 2 Q N]
      omega
    have h2 := Nat.pow_le_pow_left h1 m
    rw [Nat.mul_pow, ← hN] at h2
    refine Nat.lt_of_le_of_lt h2 ?_
    rw [Nat.pow_succ, Nat.mul_comm]
    exact Nat.mul_lt_mul_of_pos_left (Nat.lt_succ_self N) (Nat.pow_pos (Nat.succ_pos N))
  refine ⟨fun t => X i t - X j t, ?_, fun t ht => ?_, fun r hr => ?_⟩
  · refine Classical.byContradiction fun hn => ?_
    have hall : ∀ t, t < m + 1 → X i t = X j t := fun t ht => Classical.byContradiction fun z => hn ⟨t, ht, fun q => z (Int.sub_eq_zero.mp q)⟩
    have hd : dig (N + 1) (m + 1) i = dig (N + 1) (m + 1) j := by
      refine List.ext_getElem (by rw [dig_len, dig_len]) fun t h1 h2 => ?_
      have h3 := hall t (by rw [dig_len] at h1; exact h1)
      have h3 : (((dig (N + 1) (m + 1) i).getD t 0 : Nat) : Int) = (((dig (N + 1) (m + 1) j).getD t 0 : Nat) : Int) := h3
      rw [getD_memS h1, getD_memS h2] at h3
      exact Int.ofNat_inj.mp h3
    have e1 := dig_code (B := N + 1) (m + 1) i (by omega)
    have e2 := dig_code (B := N + 1) (m + 1) j (by omega)
    rw [hd, e2] at e1
    omega
  · have h1 := hX i t ht
    have h2 := hX j t ht
    show (X i t - X j t).natAbs ≤ N
    omega
  · have e1 : y i r = y j r := by
      have h1 : (cl i)[r]? = (cl j)[r]? := by rw [ec]
      have g : ∀ k, (cl k)[r]? = some (y k r + K).toNat := fun k => by
        show ((List.range m).map _)[r]? = _
        rw [List.getElem?_map, List.getElem?_range hr]
        rfl
      rw [g, g] at h1
      have h1 := Option.some.inj h1
      have := hy i r hr
      have := hy j r hr
      omega
    have e2 : sZ (fun t => A r t * (X i t - X j t)) (m + 1) = y i r - y j r := by
      rw [sZ_congr (g := fun t => A r t * X i t - A r t * X j t) fun t _ => Int.mul_sub ..]
      exact sZ_sub _ _ _
    rw [e2, e1, Int.sub_self]
end
section
theorem sB_sZ (f : Nat → Int) : ∀ n, sB (fun t => ((f t : Int) : Rat)) n = ((sZ f n : Int) : Rat)
  | 0 => rfl
  | n + 1 => by
    show sB _ n + ((f n : Int) : Rat) = ((sZ f n + f n : Int) : Rat)
    rw [sB_sZ f n, Rat.intCast_add]
theorem sB_scale (D : Rat) (f : Nat → Rat) : ∀ n, sB f n * D = sB (fun t => f t * D) n
  | 0 => by show (0 : Rat) * D = 0; grind
  | n + 1 => by
    show (sB f n + f n) * D = sB _ n + f n * D
    rw [← sB_scale D f n]; grind
def RwB (M W : Nat) (l : List Rat) : Prop := ∃ D : Nat, 0 < D ∧ ∀ j, j ≤ W → Bc D M (at0 l j)
abbrev sgM (m M : Nat) : Nat := (2 * ((m + 1) * M) + 1) ^ m
theorem sg_pos (m M : Nat) : 1 ≤ sgM m M := Nat.pow_pos (Nat.succ_pos _)
theorem bc_sgn {V : Int} {B : Nat} {q : Rat} {U : Int} (h : q * (V : Rat) = (U : Rat)) (hU : U.natAbs ≤ B) : Bc V.natAbs B q := by
  rcases Int.natAbs_eq V with e | e
  · exact ⟨U, by rw [e] at h; exact h, hU⟩
  · refine ⟨-U, ?_, by rw [Int.natAbs_neg]; exact hU⟩
    rw [Rat.intCast_neg, ← h]
    have : (V : Rat) = -((V.natAbs : Nat) : Rat) := by
      have e2 : (V : Rat) = ((-((V.natAbs : Nat) : Int) : Int) : Rat) := congrArg _ e
      rw [e2, Rat.intCast_neg]; rfl
    rw [this]
    grind
section
variable {L0 : List (List Rat)} {cst : List Rat} {W M : Nat} {T : Tb}
theorem tb_size (h : TbI L0 cst W T) (hM : ∀ i, i < L0.length → RwB M W (L0.getD i [])) {j : Nat} (hj : j ≤ W) : ∃ V : Nat, 0 < V ∧ V ≤ sgM L0.length M ∧ (∀ i, i < L0.length → Bc V (sgM L0.length M) (at0 (T.ln i) j)) ∧ ∀ Dc Mc : Nat, (∀ j, j ≤ W → Bc Dc Mc (at0 cst j)) → Bc (V * Dc) ((L0.length + 1) * (sgM L0.length M * Mc)) (at0 T.gains j) := by
  obtain ⟨m, hm⟩ : ∃ m, m = L0.length := ⟨_, rfl⟩
  rw [← hm] at hM ⊢
  have h1 := sg_pos m M
  by_cases hb : ∃ k, k < m ∧ T.bs k = j
  · obtain ⟨k, hk, e⟩ := hb
    refine ⟨1, Nat.one_pos, h1, fun i hi => ?_, fun Dc Mc _ => ?_⟩
    · have := h.id i k (by omega) (by omega)
      rw [e] at this
      rw [this]
      split
      · exact ⟨1, by grind, h1⟩
      · exact (Bc.zero 1).mono (Nat.zero_le _)
    · have := h.gb k (by omega)
      rw [e] at this
      rw [this]
      exact (Bc.zero _).mono (Nat.zero_le _)
  · let col : Nat → Nat := fun t => if t < m then T.bs t else j
    have hcW : ∀ t, col t ≤ W := fun t => by
      show (if t < m then T.bs t else j) ≤ W
      split
      · rename_i ht
        exact Nat.le_of_lt (h.bw t (by omega))
      · exact hj
    have hch : ∀ i, ∃ D : Nat, 0 < D ∧ ∃ z : Nat → Int, i < m → ∀ t, at0 (L0.getD i []) (col t) * (D : Rat) = (z t : Rat) ∧ (z t).natAbs ≤ M := fun i => by
      by_cases hi : i < m
      · obtain ⟨D, hD, hz⟩ := hM i hi
        exact ⟨D, hD, fun t => (hz (col t) (hcW t)).choose, fun _ t => (hz (col t) (hcW t)).choose_spec⟩
      · exact ⟨1, Nat.one_pos, fun _ => 0, fun q => absurd q hi⟩
    let A : Nat → Nat → Int := fun i => (hch i).choose_spec.2.choose
    have hA : ∀ i, i < m → ∀ t, at0 (L0.getD i []) (col t) * ((hch i).choose : Rat) = (A i t : Rat) ∧ (A i t).natAbs ≤ M := fun i hi t => (hch i).choose_spec.2.choose_spec hi t
    obtain ⟨x, ⟨t0, ht0, hx0⟩, hxb, hxk⟩ := siegel m M A fun i hi t _ => (hA i hi t).2
    let v : Nat → Rat := fun l => sB (fun t => if l = col t then ((x t : Int) : Rat) else 0) (m + 1)
    have hv : ∀ l, dF l v = sB (fun t => ((x t : Int) : Rat) * at0 l (col t)) (m + 1) := fun l => dF_sB l col (fun t => ((x t : Int) : Rat)) (m + 1)
    have hker : Ker L0 v := by
      rw [ker_iff]
      intro i hi
      rw [← hm] at hi
      have hD := (hch i).choose_spec.1
      have e : dF (L0.getD i []) v * ((hch i).choose : Rat) = 0 := by
        rw [hv, sB_scale, sB_congr (g := fun t => ((A i t * x t : Int) : Rat)) fun t _ => by
          rw [Rat.intCast_mul, ← (hA i hi t).1]; grind]
        rw [sB_sZ (fun t => A i t * x t), hxk i hi]
        rfl
      rcases Rat.mul_eq_zero.mp e with e | e
      · exact e
      · exact absurd e (rat_ne0 hD)
    have hcm : col m = j := if_neg (Nat.lt_irrefl m)
    have hct : ∀ t, t < m → col t = T.bs t := fun t ht => if_pos ht
    have hln : ∀ i, i < m → ((x i : Int) : Rat) + ((x m : Int) : Rat) * at0 (T.ln i) j = 0 := fun i hi => by
      have e := (ker_iff.mp ((h.kr v).mpr hker)) i (by rw [h.ll, ← hm]; exact hi)
      rw [hv] at e
      have e : sB (fun t => ((x t : Int) : Rat) * at0 (T.ln i) (col t)) m + ((x m : Int) : Rat) * at0 (T.ln i) (col m) = 0 := e
      rw [hcm, sB_one (r := i) hi fun k hk hne => by rw [hct k hk, h.id i k (by omega) (by omega), if_neg fun e => hne e.symm]; grind, hct i hi, h.id i i (by omega) (by omega), if_pos rfl] at e
      grind
    have hxm : x m ≠ 0 := fun z => by
      rcases Nat.lt_or_ge t0 m with w | w
      · have := hln t0 w
        rw [z] at this
        have : ((x t0 : Int) : Rat) = ((0 : Int) : Rat) := by
          have e0 : ((0 : Int) : Rat) = 0 := rfl
          rw [e0] at this ⊢
          grind
        exact hx0 (Rat.intCast_inj.mp this)
      · have : t0 = m := by omega
        exact hx0 (this ▸ z)
    refine ⟨(x m).natAbs, by omega, hxb m (by omega), fun i hi => ?_, fun Dc Mc hc => ?_⟩
    · refine bc_sgn (U := -x i) ?_ (by rw [Int.natAbs_neg]; exact hxb i (by omega))
      rw [Rat.intCast_neg]
      have := hln i hi
      grind
    · have hg : ((x m : Int) : Rat) * at0 T.gains j = dF cst v := by
        rw [← h.kg v hker, hv]
        show _ = sB (fun t => ((x t : Int) : Rat) * at0 T.gains (col t)) m + ((x m : Int) : Rat) * at0 T.gains (col m)
        rw [hcm, sB_zero fun k hk => by rw [hct k hk, h.gb k (by omega)]; grind]
        grind
      let z : Nat → Int := fun t => (hc (col t) (hcW t)).choose
      have hz : ∀ t, at0 cst (col t) * (Dc : Rat) = (z t : Rat) ∧ (z t).natAbs ≤ Mc := fun t => (hc (col t) (hcW t)).choose_spec
      have hs : dF cst v * (Dc : Rat) = ((sZ (fun t => x t * z t) (m + 1) : Int) : Rat) := by
        rw [hv, sB_scale, ← sB_sZ]
        refine sB_congr fun t _ => ?_
        rw [Rat.intCast_mul, ← (hz t).1]
        grind
      have := bc_sgn (V := x m * Dc) (B := (m + 1) * (sgM m M * Mc)) (q := at0 T.gains j) (U := sZ (fun t => x t * z t) (m + 1)) (by
        rw [← hs, ← hg, Rat.intCast_mul]
        show at0 T.gains j * ((x m : Rat) * (Dc : Rat)) = _
        grind) (sZ_bd fun t ht => by
        rw [Int.natAbs_mul]
        exact Nat.mul_le_mul (hxb t ht) (hz t).2)
      rw [Int.natAbs_mul, Int.natAbs_natCast] at this
      exact this
end
end
section
structure TbL (L0 : List (List Rat)) (W : Nat) (T : Tb) : Prop where
  ll : T.lines.length = L0.length
  lw : ∀ l ∈ T.lines, l.length = W + 1
  bl : T.basis.length = L0.length
  id : ∀ i k, i < L0.length → k < L0.length → at0 (T.ln i) (T.bs k) = if i = k then 1 else 0
  bw : ∀ k, k < L0.length → T.bs k < W
  kr : ∀ x, Ker T.lines x ↔ Ker L0 x
  nn : ∀ i, i < L0.length → 0 ≤ at0 (T.ln i) W
def stG (T : Tb) (cst : List Rat) : Nat → List Rat
  | 0 => cst
  | t + 1 => redL (stG T cst t) (at0 cst (T.bs t)) (T.ln t)
def startT (T : Tb) (cst : List Rat) (m : Nat) : Tb := { T with gains := stG T cst m }
section
variable {L0 : List (List Rat)} {cst : List Rat} {W : Nat} {T : Tb}
theorem TbI.l (h : TbI L0 cst W T) : TbL L0 W T := ⟨h.ll, h.lw, h.bl, h.id, h.bw, h.kr, h.nn⟩
noncomputable def endK (W m last : Nat) (T : Tb) : Nat := by
  classical
  exact if h : ∃ k, simS W m last (runO W m last T k) = none ∧ ∀ n, n < k → simS W m last (runO W m last T n) = some (runO W m last T (n + 1)) then h.choose else 0
noncomputable def endT (W m last : Nat) (T : Tb) : Tb := runO W m last T (endK W m last T)
def drvC (T : Tb) (F i : Nat) : Option Nat := (List.range F).find? fun c => decide (at0 (T.ln i) c ≠ 0)
def drvT (F : Nat) (T : Tb) : Nat → Tb
  | 0 => T
  | t + 1 => if F ≤ (drvT F T t).bs t then (match drvC (drvT F T t) F t with
    | some c => pivT (drvT F T t) t c
    | none => drvT F T t) else drvT F T t
theorem find_range {P : Nat → Bool} {F c : Nat} (hc : c < F) (hp : P c = true) (hn : ∀ c', c' < c → P c' = false) : (List.range F).find? P = some c := by
  rw [List.find?_eq_some_iff_append]
  refine ⟨hp, List.range c, (List.range (F - c - 1)).map (· + (c + 1)), ?_, fun a ha => by rw [hn a (List.mem_range.mp ha)]; rfl⟩
  refine List.ext_getElem (by simp only [List.length_range, List.length_append, List.length_cons, List.length_map]; omega) fun i h1 h2 => ?_
  rw [List.getElem_range]
  by_cases z : i < c
  · rw [List.getElem_append_left (by rw [List.length_range]; exact z), List.getElem_range]
  · rw [List.getElem_append_right (by rw [List.length_range]; omega)]
    simp only [List.length_range]
    obtain ⟨d, hd⟩ : ∃ d, i = c + d := ⟨i - c, by omega⟩
    subst hd
    cases d with
    | zero => simp
    | succ d =>
      simp only [show c + (d + 1) - c = d + 1 by omega, List.getElem_cons_succ, List.getElem_map, List.getElem_range]
      omega
end
end
section
theorem at_app1 {a b : List Rat} {j : Nat} (h : j < a.length) : at0 (a ++ b) j = at0 a j := by
  show (a ++ b).getD j 0 = a.getD j 0
  rw [List.getD_eq_getElem?_getD, List.getElem?_append_left h, ← List.getD_eq_getElem?_getD]
theorem at_app2 {a b : List Rat} {j : Nat} : at0 (a ++ b) (a.length + j) = at0 b j := by
  show (a ++ b).getD (a.length + j) 0 = b.getD j 0
  rw [List.getD_eq_getElem?_getD, List.getElem?_append_right (by omega), Nat.add_sub_cancel_left, ← List.getD_eq_getElem?_getD]
theorem at_map {α : Type} {l : List α} {f : α → Rat} {j : Nat} (h : j < l.length) : at0 (l.map f) j = f l[j] := by
  show (l.map f).getD j 0 = _
  rw [getD_memS (by rw [List.length_map]; exact h), List.getElem_map]
theorem at_rep {n j : Nat} {v : Rat} (h : j < n) : at0 (List.replicate n v) j = v := by
  show (List.replicate n v).getD j 0 = v
  rw [getD_memS (by rw [List.length_replicate]; exact h), List.getElem_replicate]
def colN (fr : List Bool) : Nat → List (Nat × Rat)
  | 0 => []
  | t + 1 => colN fr t ++ (if fr.getD t false then [(t, 1), (t, -1)] else [(t, 1)])
abbrev Prg.cols (p : Prg) : List (Nat × Rat) := colN p.fr p.n
abbrev wgt (C : List (Nat × Rat)) (ns : List Rat) : List Rat := C.map fun c => c.2 * at0 ns c.1
end
section
abbrev Prg.m (p : Prg) : Nat := p.rs.length
abbrev Prg.row (p : Prg) (k : Nat) : PRow := p.rs.getD k ⟨[], .eq, 0⟩
def Prg.slk (p : Prg) : List Nat := (List.range p.m).filter fun k => decide ((p.row k).w ≠ .eq)
def sgT (r : PRow) : Rat := if r.b < 0 then -1 else 1
def slR : Wd → Rat
  | .le => 1
  | _ => -1
abbrev Prg.lnC (p : Prg) (k : Nat) : List Rat := wgt p.cols (p.row k).ns ++ p.slk.map fun o => if o = k then slR (p.row k).w else 0
abbrev Prg.lnP (p : Prg) (k : Nat) : List Rat := (p.lnC k).map (fun x => sgT (p.row k) * x) ++ ((List.range p.m).map (fun o => if o = k then 1 else 0) ++ [sgT (p.row k) * (p.row k).b])
abbrev Prg.F (p : Prg) : Nat := p.cols.length + p.slk.length
abbrev Prg.W (p : Prg) : Nat := p.F + p.m
abbrev Prg.L0 (p : Prg) : List (List Rat) := (List.range p.m).map p.lnP
abbrev Prg.T0 (p : Prg) : Tb := ⟨p.L0, [], (List.range p.m).map fun k => p.F + k⟩
def Prg.cst (p : Prg) (gs : List Rat) (cost : Rat) : List Rat := wgt p.cols gs ++ (List.replicate p.slk.length 0 ++ (List.replicate p.m cost ++ [0]))
section
variable {p : Prg}
theorem cst_len (gs : List Rat) (cost : Rat) : (p.cst gs cost).length = p.W + 1 := by
  unfold Prg.cst
  simp only [List.length_append, List.length_map, List.length_replicate, List.length_cons, List.length_nil]
  show _ = p.cols.length + p.slk.length + p.m + 1
  omega
end
end
section
section
variable {p : Prg} {gs : List Rat} {cost : Rat} {T : Tb}
end
end
section
abbrev Prg.c1 (p : Prg) : List Rat := p.cst (List.replicate p.n 0) (-1)
abbrev Prg.c2 (p : Prg) : List Rat := p.cst p.g 0
abbrev Prg.s1 (p : Prg) : Tb := startT p.T0 p.c1 p.m
noncomputable def Prg.e1 (p : Prg) : Tb := endT p.W p.m p.F p.s1
noncomputable def Prg.dr (p : Prg) : Tb := drvT p.F p.e1 p.m
noncomputable def Prg.s2 (p : Prg) : Tb := startT p.dr p.c2 p.m
noncomputable def Prg.e2 (p : Prg) : Tb := endT p.W p.m p.F p.s2
section
variable {p : Prg}
end
end
section
section
variable {p : Prg}
inductive Ph (p : Prg) : List Rat → Prop where
  | one : Ph p p.c1
  | two : Ph p p.c2
theorem Ph.len {cst : List Rat} (h : Ph p cst) : cst.length = p.W + 1 := by
  cases h <;> exact cst_len _ _
end
end
section
theorem redL_map (c : Rat) : ∀ l o : List Rat, (l.zip o).map (fun p => yR (p.1 - c * p.2)) = (redL l c o).map yR
  | [], _ => rfl
  | _ :: _, [] => rfl
  | a :: l, b :: o => by
    show yR (a - c * b) :: (l.zip o).map _ = yR (a - c * b) :: (redL l c o).map yR
    rw [redL_map c l o]
end
section
def pvL (T : Tb) (r c t : Nat) : List (List Rat) := T.lines.mapIdx fun i l => if i = r then divL (T.ln r) (at0 (T.ln r) c) else if i < t then redL l (at0 l c) (divL (T.ln r) (at0 (T.ln r) c)) else l
theorem pvL_len (T : Tb) (r c t : Nat) : (pvL T r c t).length = T.lines.length := List.length_mapIdx
theorem pvL_get {T : Tb} {r c t i : Nat} (h : i < (pvL T r c t).length) : (pvL T r c t)[i] = if i = r then divL (T.ln r) (at0 (T.ln r) c) else if i < t then redL (T.lines[i]'(by rw [pvL_len] at h; exact h)) (at0 (T.lines[i]'(by rw [pvL_len] at h; exact h)) c) (divL (T.ln r) (at0 (T.ln r) c)) else T.lines[i]'(by rw [pvL_len] at h; exact h) := List.getElem_mapIdx ..
theorem pvL_at {T : Tb} {r c t i : Nat} (h : i < T.lines.length) : (pvL T r c t).getD i [] = if i = r then divL (T.ln r) (at0 (T.ln r) c) else if i < t then redL (T.ln i) (at0 (T.ln i) c) (divL (T.ln r) (at0 (T.ln r) c)) else T.ln i := by
  rw [getD_memS (by rw [pvL_len]; exact h)]
  rw [pvL_get (by rw [pvL_len]; exact h)]
  have e : T.ln i = T.lines[i] := getD_memS h
  rw [e]
theorem pvL_0 {T : Tb} {r c : Nat} : T.lines.set r (divL (T.ln r) (at0 (T.ln r) c)) = pvL T r c 0 := by
  refine List.ext_getElem (by rw [pvL_len, List.length_set]) fun i h1 h2 => ?_
  rw [List.getElem_set]
  rw [pvL_get h2]
  by_cases z : r = i
  · rw [if_pos z, if_pos z.symm]
  · rw [if_neg z, if_neg fun e => z e.symm, if_neg (Nat.not_lt_zero _)]
theorem pvL_set {T : Tb} {r c t : Nat} (ht : t < T.lines.length) (hne : t ≠ r) : (pvL T r c t).set t (redL (T.ln t) (at0 (T.ln t) c) (divL (T.ln r) (at0 (T.ln r) c))) = pvL T r c (t + 1) := by
  refine List.ext_getElem (by rw [pvL_len, List.length_set, pvL_len]) fun i h1 h2 => ?_
  rw [List.getElem_set]
  have hi : i < T.lines.length := by rw [pvL_len] at h2; exact h2
  have e1 : (pvL T r c (t + 1))[i] = (pvL T r c (t + 1)).getD i [] := (getD_memS h2).symm
  have hi2 : i < (pvL T r c t).length := by rw [pvL_len]; exact hi
  have e2 : (pvL T r c t)[i] = (pvL T r c t).getD i [] := (getD_memS hi2).symm
  rw [e1, e2, pvL_at hi, pvL_at hi]
  by_cases z : t = i
  · subst z
    rw [if_pos rfl, if_neg hne, if_pos (Nat.lt_succ_self _)]
  · rw [if_neg z]
    by_cases w : i = r
    · rw [if_pos w, if_pos w]
    · rw [if_neg w, if_neg w]
      by_cases x : i < t
      · rw [if_pos x, if_pos (by omega)]
      · rw [if_neg x, if_neg (by omega)]
theorem pvL_same {T : Tb} {r c t : Nat} (h : t = r ∨ (at0 (T.ln t) c = 0 ∧ (T.ln t).length = (T.ln r).length)) : pvL T r c t = pvL T r c (t + 1) := by
  refine List.ext_getElem (by rw [pvL_len, pvL_len]) fun i h1 h2 => ?_
  have hi : i < T.lines.length := by rw [pvL_len] at h2; exact h2
  have e1 : (pvL T r c (t + 1))[i] = (pvL T r c (t + 1)).getD i [] := (getD_memS h2).symm
  have e2 : (pvL T r c t)[i] = (pvL T r c t).getD i [] := (getD_memS h1).symm
  rw [e1, e2, pvL_at hi, pvL_at hi]
  by_cases w : i = r
  · rw [if_pos w, if_pos w]
  · rw [if_neg w, if_neg w]
    by_cases x : i < t
    · rw [if_pos x, if_pos (by omega)]
    · rw [if_neg x]
      by_cases y : i < t + 1
      · rw [if_pos y]
        have e : i = t := by omega
        subst e
        rcases h with h | ⟨h, hl⟩
        · exact absurd h w
        · rw [h, red_zero _ _ (by rw [divL_len, hl])]
      · rw [if_neg y]
theorem pvL_end {T : Tb} {r c : Nat} : pvL T r c T.lines.length = (pivT T r c).lines := by
  refine List.ext_getElem (by rw [pvL_len]; exact List.length_mapIdx.symm) fun i h1 h2 => ?_
  have hi : i < T.lines.length := by rw [pvL_len] at h1; exact h1
  have e1 : (pvL T r c T.lines.length)[i] = (pvL T r c T.lines.length).getD i [] := (getD_memS h1).symm
  have e2 : (pivT T r c).lines[i] = (pivT T r c).ln i := (getD_memS h2).symm
  rw [e1, e2, pvL_at hi, piv_ln hi]
  by_cases w : i = r
  · rw [if_pos w, if_pos w]
  · rw [if_neg w, if_neg w, if_pos hi]
theorem rows_at {L : List (List Rat)} {i : Nat} (h : i < L.length) : (L.map yRs)[i]? = some (yRs (L.getD i [])) := by
  rw [List.getElem?_map, List.getElem?_eq_getElem h, getD_memS h]
  rfl
end
section
def yOn : Option Nat → Y
  | none => .non
  | some r => .int (r : Nat)
end
section
end
section
end
section
end
section
end
section
end
section
def PlO (a : Option Y) : Prop := a = none ∨ (∃ i, a = some (.int i)) ∨ ∃ b, a = some (.bl b)
theorem PlO.sub {a : Option Y} (h : PlO a) (n : Nat) (y : Y) : a.map (Y.sub n y) = a := by
  rcases h with rfl | ⟨i, rfl⟩ | ⟨b, rfl⟩ <;> rfl
theorem lc_rngS {E0 : Ey} {el : ED} {tg : Tg} {n : Nat} {f : Nat → Rat} {o : OC} {F : List Y → OC → Prop} (hn : n ≤ 1000)
    (st : ∀ i, i < n → ∃ E1, TgY tg (.int (i : Nat)) E0 E1 ∧ VE el E1 o (fun z o2 => z = yR (f i) ∧ o2 = o) noq) (en : F (((List.range n).map f).map yR) o) : LcG tg tY el E0 (rngY 0 ((n : Int)).toNat) [] o F := by
  have e : rngY 0 ((n : Int)).toNat = (List.range n).map fun (i : Nat) => Y.int (i : Nat) := by
    unfold rngY
    rw [Int.toNat_natCast]
    exact List.map_congr_left fun i _ => by rw [Int.zero_add]
  rw [e]
  refine lc_map (f := fun i => yR (f i)) (by rw [List.length_range]; have : szl = 16777216 := rfl; omega) (fun i hi => st i (List.mem_range.mp hi)) ?_
  rw [List.map_map] at en
  exact en
theorem map_rng {α : Type} (f : Nat → α) (t : Nat) : (List.range (t + 1)).map f = (List.range t).map f ++ [f t] := by
  rw [List.range_succ, List.map_append]; rfl
theorem map_snoc1 {α β : Type} (f : α → β) (xs : List α) (x : α) : (xs ++ [x]).map f = xs.map f ++ [f x] := by
  rw [List.map_append]; rfl
end
section
section
variable {p : Prg} {K : Nat} {cst : List Rat} {T : Tb}
end
end
section
end
section
section
variable {p : Prg}
end
end
section
def swp {α : Type} (l : List α) (d : α) (i r : Nat) : List α := (l.set i (l.getD r d)).set r (l.getD i d)
def tau (i r k : Nat) : Nat := if k = r then i else if k = i then r else k
theorem swp_len {α : Type} (l : List α) (d : α) (i r : Nat) : (swp l d i r).length = l.length := by
  unfold swp; rw [List.length_set, List.length_set]
theorem getD_set {α : Type} {l : List α} {d x : α} {i k : Nat} (h : i < l.length) : (l.set i x).getD k d = if k = i then x else l.getD k d := by
  rw [List.getD_eq_getElem?_getD, List.getD_eq_getElem?_getD]
  by_cases z : k = i
  · subst z
    rw [List.getElem?_set_self h, if_pos rfl]; rfl
  · rw [List.getElem?_set_ne (fun e => z e.symm), if_neg z]
theorem swp_at {α : Type} {l : List α} {d : α} {i r k : Nat} (hi : i < l.length) (hr : r < l.length) : (swp l d i r).getD k d = l.getD (tau i r k) d := by
  unfold swp tau
  rw [getD_set (by rw [List.length_set]; exact hr), getD_set hi]
  by_cases z : k = r
  · rw [if_pos z, if_pos z]
  · rw [if_neg z, if_neg z]
    by_cases w : k = i
    · rw [if_pos w, if_pos w]
    · rw [if_neg w, if_neg w]
theorem tau_lt {i r k m : Nat} (hi : i < m) (hr : r < m) (hk : k < m) : tau i r k < m := by
  unfold tau; split
  · exact hi
  · split
    · exact hr
    · exact hk
theorem tau_tau (i r k : Nat) : tau i r (tau i r k) = k := by
  unfold tau
  by_cases z : k = r
  · rw [if_pos z]
    by_cases w : i = r
    · rw [if_pos w]; omega
    · rw [if_neg w, if_pos rfl]; exact z.symm
  · rw [if_neg z]
    by_cases w : k = i
    · rw [if_pos w, if_pos rfl]; exact w.symm
    · rw [if_neg w, if_neg z, if_neg w]
theorem tau_inj {i r a b : Nat} (h : tau i r a = tau i r b) : a = b := by
  have := congrArg (tau i r) h
  rwa [tau_tau, tau_tau] at this
def swT (T : Tb) (i r : Nat) : Tb := ⟨swp T.lines [] i r, T.gains, swp T.basis 0 i r⟩
section
variable {L0 : List (List Rat)} {cst : List Rat} {W : Nat} {T : Tb}
theorem sw_ln {i r k : Nat} (hi : i < T.lines.length) (hr : r < T.lines.length) : (swT T i r).ln k = T.ln (tau i r k) := swp_at hi hr
theorem sw_bs {i r k : Nat} (hi : i < T.basis.length) (hr : r < T.basis.length) : (swT T i r).bs k = T.bs (tau i r k) := swp_at hi hr
theorem TbI.sw (h : TbI L0 cst W T) {i r : Nat} (hi : i < L0.length) (hr : r < L0.length) : TbI L0 cst W (swT T i r) := by
  have hl := h.ll
  have hb := h.bl
  have e1 : ∀ k, (swT T i r).ln k = T.ln (tau i r k) := fun k => sw_ln (by omega) (by omega)
  have e2 : ∀ k, (swT T i r).bs k = T.bs (tau i r k) := fun k => sw_bs (by omega) (by omega)
  have el : (swT T i r).lines.length = T.lines.length := swp_len ..
  refine ⟨el.trans hl, fun l hm => ?_, (swp_len ..).trans hb, h.gl, fun a k ha hk => ?_, fun k hk => ?_, fun k hk => ?_, fun x => ?_, h.kg, fun a ha => ?_⟩
  · obtain ⟨k, hk, rfl⟩ := List.getElem_of_mem hm
    have := e1 k
    rw [show (swT T i r).ln k = (swT T i r).lines[k] from getD_memS hk] at this
    rw [this]
    have hk2 : tau i r k < T.lines.length := tau_lt (by omega) (by omega) (by rw [← el]; exact hk)
    rw [show T.ln (tau i r k) = T.lines[tau i r k] from getD_memS hk2]
    exact h.lw _ (List.getElem_mem _)
  · rw [e1, e2, h.id _ _ (tau_lt hi hr ha) (tau_lt hi hr hk)]
    by_cases z : a = k
    · rw [if_pos z, if_pos (by rw [z])]
    · rw [if_neg z, if_neg fun w => z (tau_inj w)]
  · rw [e2]; exact h.gb _ (tau_lt hi hr hk)
  · rw [e2]; exact h.bw _ (tau_lt hi hr hk)
  · rw [← h.kr x, ker_iff, ker_iff, el]
    constructor
    · intro q k hk
      have := q (tau i r k) (tau_lt (by omega) (by omega) hk)
      rw [show (swT T i r).lines.getD (tau i r k) [] = (swT T i r).ln (tau i r k) from rfl, e1, tau_tau] at this
      exact this
    · intro q k hk
      rw [show (swT T i r).lines.getD k [] = (swT T i r).ln k from rfl, e1]
      exact q _ (tau_lt (by omega) (by omega) hk)
  · rw [e1]; exact h.nn _ (tau_lt hi hr ha)
def fndL (L : List (List Rat)) (r c : Nat) : Option Nat := (List.range L.length).find? fun i => decide (r ≤ i) && decide (at0 (L.getD i []) c ≠ 0)
theorem fnd_some {L : List (List Rat)} {r c i : Nat} (h : fndL L r c = some i) : r ≤ i ∧ i < L.length ∧ at0 (L.getD i []) c ≠ 0 := by
  have h1 := List.find?_some h
  rw [Bool.and_eq_true] at h1
  exact ⟨of_decide_eq_true h1.1, List.mem_range.mp (List.mem_of_find?_eq_some h), of_decide_eq_true h1.2⟩
theorem fnd_no {L : List (List Rat)} {r c : Nat} (h : fndL L r c = none) {i : Nat} (h1 : r ≤ i) (h2 : i < L.length) : at0 (L.getD i []) c = 0 := by
  have := List.find?_eq_none.mp h i (List.mem_range.mpr h2)
  rw [Bool.and_eq_true] at this
  refine Classical.byContradiction fun w => this ⟨decide_eq_true h1, decide_eq_true w⟩
theorem fnd_at {L : List (List Rat)} {r c i : Nat} (h1 : r ≤ i) (h2 : i < L.length) (h3 : at0 (L.getD i []) c ≠ 0) (h4 : ∀ k, r ≤ k → k < i → at0 (L.getD k []) c = 0) : fndL L r c = some i := by
  refine find_range h2 ?_ fun k hk => ?_
  · rw [Bool.and_eq_true]; exact ⟨decide_eq_true h1, decide_eq_true h3⟩
  · by_cases z : r ≤ k
    · rw [h4 k z hk]; simp
    · rw [decide_eq_false z]; rfl
def gaS (T : Tb) (r c : Nat) : Option Tb := (fndL T.lines r c).map fun i => pivT (swT T i r) r c
def gaR (T0 : Tb) : Nat → Tb × List Nat
  | 0 => (T0, [])
  | c + 1 => match gaS (gaR T0 c).1 (gaR T0 c).2.length c with
    | some T => (T, (gaR T0 c).2 ++ [c])
    | none => gaR T0 c
structure GaI (L0 : List (List Rat)) (cst : List Rat) (W : Nat) (T : Tb) (pv : List Nat) (c : Nat) : Prop where
  ok : TbI L0 cst W T
  pl : pv.length ≤ L0.length
  pb : ∀ k, k < pv.length → T.bs k = pv.getD k 0
  pc : ∀ k, k < pv.length → pv.getD k 0 < c
  zr : ∀ i, pv.length ≤ i → i < L0.length → ∀ j, j < c → at0 (T.ln i) j = 0
theorem zcol (h : TbI L0 cst W T) (hz : ∀ l ∈ L0, at0 l W = 0) {i : Nat} (hi : i < L0.length) : at0 (T.ln i) W = 0 := by
  have hk : Ker L0 fun j => if j = W then 1 else 0 := fun l hl => by rw [dF_one, hz l hl]; exact Rat.zero_mul _
  have := ker_iff.mp ((h.kr _).mpr hk) i (by rw [h.ll]; exact hi)
  rw [dF_one, Rat.mul_one] at this
  exact this
theorem gaS_ok {pv : List Nat} {c : Nat} (h : GaI L0 cst W T pv c) (hz : ∀ l ∈ L0, at0 l W = 0) (hc : c < W) : (∀ T', gaS T pv.length c = some T' → GaI L0 cst W T' (pv ++ [c]) (c + 1)) ∧ (gaS T pv.length c = none → GaI L0 cst W T pv (c + 1)) := by
  constructor
  · intro T' e
    unfold gaS at e
    cases ef : fndL T.lines pv.length c with
    | none => rw [ef] at e; cases e
    | some i =>
      rw [ef] at e
      cases e
      obtain ⟨f1, f2, f3⟩ := fnd_some ef
      rw [h.ok.ll] at f2
      have hr : pv.length < L0.length := by omega
      have hs := h.ok.sw f2 hr
      have el := h.ok.ll
      have e1 : ∀ k, (swT T i pv.length).ln k = T.ln (tau i pv.length k) := fun k => sw_ln (by omega) (by omega)
      have e2 : ∀ k, (swT T i pv.length).bs k = T.bs (tau i pv.length k) := fun k => sw_bs (by rw [h.ok.bl]; omega) (by rw [h.ok.bl]; omega)
      have hrr : (swT T i pv.length).ln pv.length = T.ln i := by rw [e1]; unfold tau; rw [if_pos rfl]
      have hne : at0 ((swT T i pv.length).ln pv.length) c ≠ 0 := by rw [hrr]; exact f3
      have hok := piv_ok hs hr hc hne (.inr (zcol hs hz hr))
      have hbs : ∀ k, k < L0.length → (pivT (swT T i pv.length) pv.length c).bs k = if k = pv.length then c else (swT T i pv.length).bs k := fun k hk => piv_bs (by rw [hs.bl]; exact hk)
      refine ⟨hok, by rw [List.length_append, List.length_singleton]; omega, fun k hk => ?_, fun k hk => ?_, fun k hk hkm j hj => ?_⟩
      · rw [List.length_append, List.length_singleton] at hk
        rw [hbs k (by omega)]
        by_cases z : k = pv.length
        · rw [if_pos z, z, List.getD_eq_getElem?_getD, List.getElem?_append_right (Nat.le_refl _), Nat.sub_self]; rfl
        · rw [if_neg z, e2]
          have ht : tau i pv.length k = k := by unfold tau; rw [if_neg z, if_neg (by omega)]
          rw [ht, h.pb k (by omega), List.getD_eq_getElem?_getD, List.getD_eq_getElem?_getD, List.getElem?_append_left (by omega)]
      · rw [List.length_append, List.length_singleton] at hk
        by_cases z : k = pv.length
        · rw [z, List.getD_eq_getElem?_getD, List.getElem?_append_right (Nat.le_refl _), Nat.sub_self]
          exact Nat.lt_succ_self c
        · have := h.pc k (by omega)
          rw [List.getD_eq_getElem?_getD] at this ⊢
          rw [List.getElem?_append_left (by omega)]
          omega
      · rw [List.length_append, List.length_singleton] at hk
        rw [piv_atW hs hr hkm, if_neg (by omega)]
        have hkt : pv.length ≤ tau i pv.length k := by unfold tau; rw [if_neg (by omega)]; split <;> omega
        have hkt2 := tau_lt f2 hr hkm
        by_cases z : j = c
        · rw [z]; grind
        · rw [hrr, h.zr i f1 f2 j (by omega), e1, h.zr _ hkt hkt2 j (by omega)]
          grind
  · intro e
    have ef : fndL T.lines pv.length c = none := by
      unfold gaS at e
      cases ef : fndL T.lines pv.length c with
      | none => rfl
      | some i => rw [ef] at e; cases e
    refine ⟨h.ok, h.pl, h.pb, fun k hk => Nat.lt_succ_of_lt (h.pc k hk), fun i hi him j hj => ?_⟩
    by_cases z : j = c
    · rw [z]; exact fnd_no ef hi (by rw [h.ok.ll]; exact him)
    · exact h.zr i hi him j (by omega)
theorem gaR_ok {T0 : Tb} (h : TbI L0 cst W T0) (hz : ∀ l ∈ L0, at0 l W = 0) : ∀ {c : Nat}, c ≤ W → GaI L0 cst W (gaR T0 c).1 (gaR T0 c).2 c
  | 0, _ => ⟨h, Nat.zero_le _, fun _ w => absurd w (Nat.not_lt_zero _), fun _ w => absurd w (Nat.not_lt_zero _), fun _ _ _ _ w => absurd w (Nat.not_lt_zero _)⟩
  | c + 1, hc => by
    have ih := gaR_ok h hz (c := c) (by omega)
    obtain ⟨s1, s2⟩ := gaS_ok ih hz (by omega)
    unfold gaR
    cases e : gaS (gaR T0 c).1 (gaR T0 c).2.length c with
    | some T => exact s1 T e
    | none => exact s2 e
end
theorem at_take {l : List Rat} {w j : Nat} (h : j < w) : at0 (l.take w) j = at0 l j := by
  show (l.take w).getD j 0 = l.getD j 0
  rw [List.getD_eq_getElem?_getD, List.getD_eq_getElem?_getD, List.getElem?_take, if_pos h]
theorem ln_take (L : List (List Rat)) (w i : Nat) : (L.map (List.take w)).getD i [] = (L.getD i []).take w := by
  rw [List.getD_eq_getElem?_getD, List.getD_eq_getElem?_getD, List.getElem?_map]
  cases L[i]? with
  | none => simp
  | some l => rfl
theorem fnd_take {L : List (List Rat)} {w r c : Nat} (h : c < w) : fndL (L.map (List.take w)) r c = fndL L r c := by
  unfold fndL
  rw [List.length_map]
  congr 1
  funext i
  rw [ln_take, at_take h]
theorem red_take (w : Nat) (l o : List Rat) (f : Rat) : redL (l.take w) f (o.take w) = (redL l f o).take w := by
  unfold redL
  rw [List.take_zipWith]
theorem div_take (w : Nat) (l : List Rat) (f : Rat) : divL (l.take w) f = (divL l f).take w := by
  unfold divL
  rw [List.map_take]
theorem swp_take {L : List (List Rat)} {w i r : Nat} : swp (L.map (List.take w)) [] i r = (swp L [] i r).map (List.take w) := by
  unfold swp
  rw [ln_take, ln_take, List.map_set, List.map_set]
theorem piv_take {T T' : Tb} {w r c : Nat} (h : T'.lines = T.lines.map (List.take w)) (hc : c < w) : (pivT T' r c).lines = (pivT T r c).lines.map (List.take w) := by
  have hr : T'.ln r = (T.ln r).take w := by show T'.lines.getD r [] = _; rw [h, ln_take]
  refine List.ext_getElem (by show (T'.lines.mapIdx _).length = ((T.lines.mapIdx _).map _).length; rw [List.length_mapIdx, List.length_map, List.length_mapIdx, h, List.length_map]) fun i h1 h2 => ?_
  have hi : i < T.lines.length := by
    rw [List.length_map, show (pivT T r c).lines.length = T.lines.length from List.length_mapIdx] at h2; exact h2
  have hi' : i < T'.lines.length := by rw [h, List.length_map]; exact hi
  have g1 : (pivT T' r c).lines[i] = if i = r then divL (T'.ln r) (at0 (T'.ln r) c) else redL T'.lines[i] (at0 T'.lines[i] c) (divL (T'.ln r) (at0 (T'.ln r) c)) := List.getElem_mapIdx ..
  have g2 : (pivT T r c).lines[i]'(by rw [List.length_map] at h2; exact h2) = if i = r then divL (T.ln r) (at0 (T.ln r) c) else redL T.lines[i] (at0 T.lines[i] c) (divL (T.ln r) (at0 (T.ln r) c)) := List.getElem_mapIdx ..
  rw [List.getElem_map, g1, g2]
  have el : T'.lines[i] = (T.lines[i]).take w := by
    have e := ln_take T.lines w i
    rw [← h, getD_memS hi', getD_memS hi] at e
    exact e
  rw [el, hr, at_take hc, at_take hc]
  split
  · rw [div_take]
  · rw [div_take, red_take]
theorem gaR_take {T0 T' : Tb} {w : Nat} (h : T'.lines = T0.lines.map (List.take w)) : ∀ {c : Nat}, c ≤ w → (gaR T' c).1.lines = (gaR T0 c).1.lines.map (List.take w) ∧ (gaR T' c).2 = (gaR T0 c).2
  | 0, _ => ⟨h, rfl⟩
  | c + 1, hc => by
    obtain ⟨i1, i2⟩ := gaR_take h (c := c) (by omega)
    have key : ∀ r, fndL (gaR T' c).1.lines r c = fndL (gaR T0 c).1.lines r c := fun r => by rw [i1]; exact fnd_take (by omega)
    unfold gaR gaS
    rw [i2, key]
    cases e : fndL (gaR T0 c).1.lines (gaR T0 c).2.length c with
    | none => exact ⟨i1, i2⟩
    | some i =>
      refine ⟨?_, rfl⟩
      refine piv_take ?_ (by omega)
      show swp (gaR T' c).1.lines [] i _ = _
      rw [i1, swp_take]
      rfl
end
section
abbrev gaLn (A : List (List Rat)) (b : List Rat) (k : Nat) : List Rat := (A.getD k [] ++ [at0 b k]) ++ ((List.range A.length).map (fun o => if o = k then (1 : Rat) else 0) ++ [0])
abbrev gaL0 (A : List (List Rat)) (b : List Rat) : List (List Rat) := (List.range A.length).map (gaLn A b)
abbrev gaZ (A : List (List Rat)) (n : Nat) : List Rat := List.replicate (n + 1 + A.length + 1) 0
abbrev gaT0 (A : List (List Rat)) (b : List Rat) (n : Nat) : Tb := ⟨gaL0 A b, gaZ A n, (List.range A.length).map fun k => n + 1 + k⟩
structure SyOk (A : List (List Rat)) (b : List Rat) (n : Nat) : Prop where
  al : ∀ r ∈ A, r.length = n
  bl : b.length = A.length
section
variable {A : List (List Rat)} {b : List Rat} {n : Nat}
theorem SyOk.ak (h : SyOk A b n) {k : Nat} (hk : k < A.length) : (A.getD k []).length = n := by
  rw [getD_memS hk]; exact h.al _ (List.getElem_mem _)
theorem SyOk.l1 (h : SyOk A b n) {k : Nat} (hk : k < A.length) : (A.getD k [] ++ [at0 b k]).length = n + 1 := by
  rw [List.length_append, h.ak hk]; rfl
theorem ga_len (h : SyOk A b n) {k : Nat} (hk : k < A.length) : (gaLn A b k).length = n + 1 + A.length + 1 := by
  rw [List.length_append, h.l1 hk, List.length_append, List.length_map, List.length_range]
  rfl
theorem ga_A (h : SyOk A b n) {k j : Nat} (hk : k < A.length) (hj : j < n) : at0 (gaLn A b k) j = at0 (A.getD k []) j := by
  rw [at_app1 (by rw [h.l1 hk]; omega), at_app1 (by rw [h.ak hk]; exact hj)]
theorem ga_b (h : SyOk A b n) {k : Nat} (hk : k < A.length) : at0 (gaLn A b k) n = at0 b k := by
  rw [at_app1 (by rw [h.l1 hk]; omega)]
  have e : n = (A.getD k []).length + 0 := by rw [h.ak hk]; rfl
  rw [e, at_app2]
  rfl
theorem ga_u (h : SyOk A b n) {k o : Nat} (hk : k < A.length) (ho : o < A.length) : at0 (gaLn A b k) (n + 1 + o) = if o = k then 1 else 0 := by
  have e : n + 1 + o = (A.getD k [] ++ [at0 b k]).length + o := by rw [h.l1 hk]
  rw [e, at_app2, at_app1 (by rw [List.length_map, List.length_range]; exact ho), at_map (by rw [List.length_range]; exact ho), List.getElem_range]
theorem ga_z (h : SyOk A b n) {k : Nat} (hk : k < A.length) : at0 (gaLn A b k) (n + 1 + A.length) = 0 := by
  have e : n + 1 + A.length = (A.getD k [] ++ [at0 b k]).length + (((List.range A.length).map fun o => if o = k then (1 : Rat) else 0).length + 0) := by
    rw [h.l1 hk, List.length_map, List.length_range]; rfl
  rw [e, at_app2, at_app2]
  rfl
theorem gaL0_len : (gaL0 A b).length = A.length := by rw [List.length_map, List.length_range]
theorem gaL0_at {k : Nat} (hk : k < A.length) : (gaL0 A b).getD k [] = gaLn A b k := by
  rw [getD_memS (by rw [gaL0_len]; exact hk), List.getElem_map, List.getElem_range]
theorem gaT0_bs {k : Nat} (hk : k < A.length) : (gaT0 A b n).bs k = n + 1 + k := by
  show ((List.range A.length).map fun k => n + 1 + k).getD k 0 = _
  rw [getD_memS (by rw [List.length_map, List.length_range]; exact hk), List.getElem_map, List.getElem_range]
theorem gaT0_ok (h : SyOk A b n) : TbI (gaL0 A b) (gaZ A n) (n + 1 + A.length) (gaT0 A b n) where
  ll := rfl
  lw := fun l hl => by
    obtain ⟨k, hk, rfl⟩ := List.mem_map.mp hl
    exact ga_len h (List.mem_range.mp hk)
  bl := by rw [List.length_map, List.length_range, gaL0_len]
  gl := List.length_replicate
  id := fun i k hi hk => by
    rw [gaL0_len] at hi hk
    rw [gaT0_bs hk]
    show at0 ((gaL0 A b).getD i []) _ = _
    rw [gaL0_at hi, ga_u h hi hk]
    simp only [eq_comm]
  gb := fun k hk => by
    rw [gaL0_len] at hk
    rw [gaT0_bs hk, at_rep (by omega)]
  bw := fun k hk => by
    rw [gaL0_len] at hk
    rw [gaT0_bs hk]
    omega
  kr := fun x => Iff.rfl
  kg := fun x _ => rfl
  nn := fun i hi => by
    rw [gaL0_len] at hi
    show 0 ≤ at0 ((gaL0 A b).getD i []) _
    rw [gaL0_at hi, ga_z h hi]
    exact Rat.le_refl
theorem gaL0_z (h : SyOk A b n) : ∀ l ∈ gaL0 A b, at0 l (n + 1 + A.length) = 0 := fun l hl => by
  obtain ⟨k, hk, rfl⟩ := List.mem_map.mp hl
  exact ga_z h (List.mem_range.mp hk)
abbrev gaA (A : List (List Rat)) (b : List Rat) (n c : Nat) : Tb := (gaR (gaT0 A b n) c).1
abbrev gaP (A : List (List Rat)) (b : List Rat) (n c : Nat) : List Nat := (gaR (gaT0 A b n) c).2
theorem ga_inv (h : SyOk A b n) {c : Nat} (hc : c ≤ n + 1 + A.length) : GaI (gaL0 A b) (gaZ A n) (n + 1 + A.length) (gaA A b n c) (gaP A b n c) c := gaR_ok (gaT0_ok h) (gaL0_z h) hc
abbrev fctG (n m : Nat) (T : Tb) (i : Nat) : List Rat := (List.range m).map fun k => at0 (T.ln i) (n + 1 + k)
def valG (T : Tb) (pv : List Nat) (n : Nat) : Nat → List Rat
  | 0 => List.replicate n 0
  | t + 1 => (valG T pv n t).set (pv.getD t 0) (at0 (T.ln t) n)
theorem val_len (T : Tb) (pv : List Nat) (n : Nat) : ∀ t, (valG T pv n t).length = n
  | 0 => List.length_replicate
  | t + 1 => by unfold valG; rw [List.length_set, val_len T pv n t]
def slvY (A : List (List Rat)) (b : List Rat) (n : Nat) : Y := match fndL (gaA A b n n).lines (gaP A b n n).length n with
  | some i => .tup [.str "contradiction", yRs (fctG n A.length (gaA A b n n) i)]
  | none => .tup [.str "solution", yRs (valG (gaA A b n n) (gaP A b n n) n (gaP A b n n).length)]
structure SySz (K : Nat) (A : List (List Rat)) (b : List Rat) (n : Nat) : Prop where
  ex : ∃ M : Nat, (∀ k, k < A.length → RwB M (n + 1 + A.length) (gaLn A b k)) ∧ sgM A.length M < 2 ^ K
theorem ga_bd {K : Nat} (z : SySz K A b n) {T : Tb} (ht : TbI (gaL0 A b) (gaZ A n) (n + 1 + A.length) T) : ∀ l ∈ T.lines, ABd K l := fun l hl x hx => by
  obtain ⟨M, h1, h2⟩ := z.ex
  obtain ⟨i, hi, e⟩ := List.getElem_of_mem hl
  obtain ⟨j, hj, e2⟩ := List.getElem_of_mem hx
  have hw := ht.lw l hl
  have hM : ∀ k, k < (gaL0 A b).length → RwB M (n + 1 + A.length) ((gaL0 A b).getD k []) := fun k hk => by
    rw [gaL0_len] at hk
    rw [gaL0_at hk]
    exact h1 k hk
  obtain ⟨V, a, bb, c, _⟩ := tb_size ht hM (j := j) (by omega)
  have hi2 : i < (gaL0 A b).length := by rw [← ht.ll]; exact hi
  have h3 := c i hi2
  have e3 : T.ln i = l := by rw [← e]; exact getD_memS hi
  rw [e3] at h3
  have e4 : at0 l j = x := by rw [← e2]; exact getD_memS hj
  rw [e4] at h3
  rw [gaL0_len] at h3 bb
  exact h3.bd a h2 (Nat.lt_of_le_of_lt bb h2)
end
end
section
noncomputable def P_column_count : FD := fnRun (sSq (sIf (tB (dCmp .Eq (dCall fLen (aC (dV 0) aN) []) (dC (.int 0)))) (sRt (dC (.int 0))) sNx)
    (sRt (dCall fLen (aC (dIx (dV 0) (dC (.int 0))) aN) []))) 1
noncomputable def P_check_rows_2 (c_column_count : FD) : FD := fnRun (sSq (sAs (dCall c_column_count (aC (dV 0) aN) []) (ofG (gN 1)))
    (sSq (sFor (iSeq (dV 0)) (gN 2) (sIf (tB (dCmp .NotEq (dCall fLen (aC (dV 2) aN) []) (dV 1))) (sRaiseA 4 [69] (aC (dC (.str "rows of different lengths")) aN)) sNx))
    (sIf (tOr (tB (dCmp .Gt (dCall fLen (aC (dV 0) aN) []) (dC (.int 72)))) (tB (dCmp .Gt (dV 1) (dC (.int 72))))) (sRaiseA 9 [48] (aC (dC (.str "system")) aN)) sNx))) 3
noncomputable def P_check_system_2 (c_check_rows : FD) (c_column_count : FD) : FD := fnRun (sSq (sAs (dCall c_column_count (aC (dV 0) aN) []) (ofG (gN 2)))
    (sSq (sFor (iSeq (dV 0)) (gN 3) (sIf (tB (dCmp .NotEq (dCall fLen (aC (dV 3) aN) []) (dV 2))) (sRaiseA 4 [69] (aC (dC (.str "rows of different lengths")) aN)) sNx))
    (sSq (sIf (tB (dCmp .NotEq (dCall fLen (aC (dV 1) aN) []) (dCall fLen (aC (dV 0) aN) []))) (sRaiseA 4 [69] (aC (dC (.str "not one bound for each row")) aN)) sNx)
    (sEx (dCall c_check_rows (aC (dV 0) aN) []))))) 4
noncomputable def P_unit_row : FD := fnRun (sRt (dLc (iRange1 (dV 0)) (gN 2) tY (dIf (tB (dCmp .Eq (dV 2) (dV 1))) (dC (.tup [(.int 1), (.int 1)])) (dC (.tup [(.int 0), (.int 1)]))) [2])) 3
noncomputable def P_plus_multiple (c_add : FD) (c_multiply : FD) : FD := fnRun (sRt (dLc (iZip (dV 0) (dV 1)) (gT [3, 4]) tY (dCall c_add (aC (dV 3) (aC (dCall c_multiply (aC (dV 2) (aC (dV 4) aN)) []) aN)) []) [3, 4])) 5
noncomputable def P_first_row_with (c_sign : FD) : FD := fnRun (sSq (sFor (iRange2 (dV 1) (dCall fLen (aC (dV 0) aN) [])) (gN 3) (sIf (tB (dCmp .NotEq (dCall c_sign (aC (dIx (dIx (dV 0) (dV 3)) (dV 2)) aN) []) (dC (.int 0)))) (sRt (dV 3)) sNx))
    (sRt (dC .non))) 4
noncomputable def P_eliminated (c_divide : FD) (c_first_row_with : FD) (c_multiply : FD) (c_negate : FD) (c_plus_multiple : FD) (c_sign : FD) : FD := fnRun (sSq (sAs (dLc (iSeq (dV 0)) (gN 9) tY (dCall fList (aC (dV 9) aN) []) [9]) (ofG (gN 0)))
    (sSq (sAs (dLst aN) (ofG (gN 2)))
    (sSq (sFor (iRange1 (dV 1)) (gN 3) (sSq (sAs (dCall c_first_row_with (aC (dV 0) (aC (dCall fLen (aC (dV 2) aN) []) (aC (dV 3) aN))) []) (ofG (gN 4)))
    (sIf (tB (dCmp .IsNot (dV 4) (dC .non))) (sSq (sAs (dCall fLen (aC (dV 2) aN) []) (ofG (gN 5)))
    (sSq (sAs (dIx (dV 0) (dV 4)) (ofG (gN 6)))
    (sSq (sAs (dIx (dV 0) (dV 5)) (gIx (dV 0) (dV 4)))
    (sSq (sAs (dCall c_divide (aC (dC (.tup [(.int 1), (.int 1)])) (aC (dIx (dV 6) (dV 3)) aN)) []) (ofG (gN 7)))
    (sSq (sAs (dLc (iSeq (dV 6)) (gN 10) tY (dCall c_multiply (aC (dV 7) (aC (dV 10) aN)) []) [10]) (gIx (dV 0) (dV 5)))
    (sSq (sFor (iRange1 (dCall fLen (aC (dV 0) aN) [])) (gN 8) (sIf (tAnd (tB (dCmp .NotEq (dV 8) (dV 5))) (tB (dCmp .NotEq (dCall c_sign (aC (dIx (dIx (dV 0) (dV 8)) (dV 3)) aN) []) (dC (.int 0))))) (sAs (dCall c_plus_multiple (aC (dIx (dV 0) (dV 8)) (aC (dIx (dV 0) (dV 5)) (aC (dCall c_negate (aC (dIx (dIx (dV 0) (dV 8)) (dV 3)) aN) []) aN))) []) (gIx (dV 0) (dV 8))) sNx))
    (sEx (dM chkL mAppend (dV 2) (aC (dV 3) aN))))))))) sNx)))
    (sRt (dTup (aC (dV 0) (aC (dV 2) aN))))))) 11
def colC : List (List Rat) → Nat
  | [] => 0
  | r :: _ => r.length
abbrev yMs (A : List (List Rat)) : Y := .lst (A.map yRs)
def PColC (f : FD) : Prop := ∀ A : List (List Rat), VP f [yMs A] (.int (colC A : Nat))
theorem pcolc_ok : PColC P_column_count := fun A => by
  refine vp_run ?_
  walk_at "v0"
  cases A with
  | nil =>
    walk_at "v"
    rfl
  | cons r A =>
    walk_at "v"
    refine x_lst (.lst _) (y := yRs r) (by rw [show (0 : Int) = ((0 : Nat) : Int) from rfl]; exact atI_nat rfl) ?_
    walk_at "v"
    rw [List.length_map]
    rfl
def PChkR (f : FD) : Prop := ∀ {A : List (List Rat)}, (∀ r ∈ A, r.length = colC A) → A.length ≤ 72 → colC A ≤ 72 → VP f [yMs A] .non
theorem pchkr_ok {c : FD} (hc : PColC c) : PChkR (P_check_rows_2 c) := fun {A} h1 h2 h3 => by
  have e0 : (A.map yRs).length = A.length := List.length_map ..
  refine vp_run ?_
  walk_at "v0"
  walk_at "v"
  refine vc_p (hc A) ?_
  walk_at "v"
  refine vs_for (vi_seq ?_)
  walk_at "v"
  refine ⟨_, _, .lst _, ?_⟩
  refine for_mapI (fun t E o => o = [] ∧ ∃ a, E = [some (yMs A), some (.int (colC A : Nat)), a]) ⟨rfl, _, rfl⟩ (fun t ht E o ⟨eo, a, eE⟩ => ?_) (fun E o ⟨eo, a, eE⟩ => ?_)
  · subst eo; subst eE
    refine ⟨_, tg_n, ?_⟩
    dsimp only [List.set]
    have := h1 _ (List.getElem_mem ht)
    have e1 : ((A[t]).map yR).length = (A[t]).length := List.length_map ..
    walk_at "v"
    · exact ⟨rfl, _, rfl⟩
    · rename_i z
      exact absurd (show (((A[t]).map yR).length : Int) = _ by rw [e1, this]) z
  · subst eo; subst eE
    walk_at "v"
    any_goals (exfalso; omega)
def PChkS (f : FD) : Prop := ∀ {A : List (List Rat)} {b : List Rat}, (∀ r ∈ A, r.length = colC A) → A.length ≤ 72 → colC A ≤ 72 → b.length = A.length → VP f [yMs A, yRs b] .non
theorem pchks_ok {k c : FD} (hk : PChkR k) (hc : PColC c) : PChkS (P_check_system_2 k c) := fun {A b} h1 h2 h3 h4 => by
  have e0 : (A.map yRs).length = A.length := List.length_map ..
  have e2 : (b.map yR).length = b.length := List.length_map ..
  refine vp_run ?_
  walk_at "v0"
  walk_at "v"
  refine vc_p (hc A) ?_
  walk_at "v"
  refine vs_for (vi_seq ?_)
  walk_at "v"
  refine ⟨_, _, .lst _, ?_⟩
  refine for_mapI (fun t E o => o = [] ∧ ∃ a, E = [some (yMs A), some (yRs b), some (.int (colC A : Nat)), a]) ⟨rfl, _, rfl⟩ (fun t ht E o ⟨eo, a, eE⟩ => ?_) (fun E o ⟨eo, a, eE⟩ => ?_)
  · subst eo; subst eE
    refine ⟨_, tg_n, ?_⟩
    dsimp only [List.set]
    have := h1 _ (List.getElem_mem ht)
    have e1 : ((A[t]).map yR).length = (A[t]).length := List.length_map ..
    walk_at "v"
    · exact ⟨rfl, _, rfl⟩
    · rename_i z
      exact absurd (show (((A[t]).map yR).length : Int) = _ by rw [e1, this]) z
  · subst eo; subst eE
    walk_at "v"
    · refine vc_p (hk h1 h2 h3) ?_
      walk_at "v"
    · rename_i z
      exact absurd (show ((b.map yR).length : Int) = ((A.map yRs).length : Nat) by rw [e0, e2, h4]) z
def PUnit (f : FD) : Prop := ∀ m k : Nat, m ≤ 1000 → VP f [.int (m : Nat), .int (k : Nat)] (yRs ((List.range m).map fun o => if o = k then 1 else 0))
theorem punit_ok : PUnit P_unit_row := fun m k hm => by
  refine vp_run ?_
  walk_at "v0"
  walk_at "v"
  refine vE_Lc false (vi_range1 ?_)
  walk_at "v"
  refine ⟨_, rfl, ⟨by omega, by omega⟩, ?_⟩
  refine lc_rngS (f := fun o => if o = k then 1 else 0) (by omega) (fun i hi => ⟨_, tg_n, ?_⟩) ?_
  · dsimp only [wipeY, List.set]
    walk_at "v"
    · rename_i z
      rw [if_pos (by omega)]
      exact ⟨rfl, rfl⟩
    · rename_i z
      rw [if_neg (by omega)]
      exact ⟨rfl, rfl⟩
  refine NL.fz ?_
  walk_at "v"
def PPlm (f : FD) : Prop := ∀ {l o : List Rat} {c : Rat} {k : Nat}, l.length = o.length → l.length ≤ 10000 → ABd k l → ABd k o → Bd k c → k < 2900 → VP f [yRs l, yRs o, yR (-c)] (yRs (redL l c o))
theorem pplm_ok {a m : FD} (ha : Add a) (hm : Mul m) : PPlm (P_plus_multiple a m) := fun {l o c k} hl hn h1 h2 hc hk => by
  have hnc := hc.neg
  refine vp_run ?_
  walk_at "v0"
  walk_at "v"
  refine vE_Lc false (vi_zip ?_)
  walk_at "v"
  refine ⟨_, _, _, _, .lst _, .lst _, ?_⟩
  rw [zipW_map]
  refine lc_map (f := fun p => yR (p.1 - c * p.2)) (by rw [List.length_zip]; have : szl = 16777216 := rfl; omega) (fun p hp => ?_) ?_
  · have hp' := List.of_mem_zip (show (p.1, p.2) ∈ l.zip o from hp)
    have b1 := h1 _ hp'.1
    have b2 := h2 _ hp'.2
    refine ⟨_, tg_t rfl, ?_⟩
    dsimp only [wipeY, List.set, setY]
    have e : p.1 - c * p.2 = p.1 + -c * p.2 := by grind
    rw [e]
    walk_at "v"
    exact ⟨rfl, rfl⟩
  · refine NL.fz ?_
    rw [redL_map]
    walk_at "v"
def PFndR (f : FD) : Prop := ∀ {L : List (List Rat)} {r c w k : Nat} {o : OC} {x : Y}, (∀ l ∈ L, l.length = w ∧ ABd k l) → c < w → L.length ≤ 10000 → r ≤ L.length → w ≤ 10000 → k < 2900 → Ls o x (L.map yRs) → VF f [x, .int (r : Nat), .int (c : Nat)] o (fun y o2 => y = yOn (fndL L r c) ∧ o2 = o) noq
theorem pfndr_ok {s : FD} (hs : Sign s) : PFndR (P_first_row_with s) := fun {L r c w k o x} hL hc hm hr hw hk hx => by
  refine vf_run ?_
  walk_at "v0"
  refine vs_sq ?_
  refine vs_for (vi_range2 ?_)
  walk_at "v"
  refine f_len hx ?_
  rw [List.length_map]
  refine ⟨_, _, rfl, rfl, ⟨by omega, by omega⟩, ⟨by omega, by omega⟩, ?_⟩
  rw [show (((L.length : Nat) : Int) - ((r : Nat) : Int)).toNat = L.length - r by omega]
  refine for_rng (fun t E o1 => o1 = o ∧ (∀ i, r ≤ i → i < r + t → at0 (L.getD i []) c = 0) ∧ ∃ a, E = [some x, some (.int (r : Nat)), some (.int (c : Nat)), a]) ⟨rfl, fun i h1 h2 => by omega, _, rfl⟩ (fun t E o1 ht ⟨eo, hz, a, eE⟩ => ?_) (fun E o1 ⟨eo, hz, a, eE⟩ => ?_)
  · subst eo; subst eE
    refine ⟨_, tg_n, ?_⟩
    rw [show ((r : Nat) : Int) + (t : Nat) = ((r + t : Nat) : Int) by omega]
    dsimp only [List.set]
    have hl : r + t < L.length := by omega
    obtain ⟨w1, w2⟩ := hL _ (List.getElem_mem hl)
    have el : L.getD (r + t) [] = L[r + t] := getD_memS hl
    rw [← el] at w1 w2
    have hb : Bd k ((L.getD (r + t) []).getD c 0) := by
      have e : (L.getD (r + t) []).getD c 0 = (L.getD (r + t) [])[c]'(by omega) := getD_memS _
      rw [e]; exact w2 _ (List.getElem_mem _)
    walk_at "v"
    refine x_lst hx (atI_nat (rows_at hl)) ?_
    walk_at "v"
    refine x_lst (.lst _) (atI_nat (mapR_at (xs := L.getD (r + t) []) (i := c) (by omega))) ?_
    walk_at "v"
    · rename_i z
      refine ⟨rfl, fun i h1 h2 => ?_, _, rfl⟩
      by_cases e : i = r + t
      · rw [e]; exact Classical.byContradiction fun w => cmpR_ne0.mpr w z
      · exact hz i h1 (by omega)
    · rename_i z
      refine ret_v (.refl _) ⟨?_, rfl⟩
      rw [fnd_at (by omega) hl (cmpR_ne0.mp z) fun k h1 h2 => hz k h1 h2]
      rfl
  · subst eo; subst eE
    have e : fndL L r c = none := List.find?_eq_none.mpr fun i hi => by
      have hi := List.mem_range.mp hi
      rw [Bool.and_eq_true]
      intro ⟨q1, q2⟩
      exact of_decide_eq_true q2 (hz i (of_decide_eq_true q1) (by omega))
    walk_at "v"
    exact ret_v (.refl _) ⟨by rw [e]; rfl, rfl⟩
end
section
abbrev elR (L : List (List Rat)) (c : Nat) : Tb × List Nat := gaR ⟨L, [], []⟩ c
structure ElB (k w m c : Nat) (L : List (List Rat)) : Prop where
  st : ∀ c', c' ≤ c → (elR L c').1.lines.length = m ∧ (∀ l ∈ (elR L c').1.lines, l.length = w ∧ ABd k l) ∧ (elR L c').2.length ≤ m
abbrev yNs (ns : List Nat) : Y := .lst (ns.map fun i => .int (i : Nat))
def PElim (f : FD) : Prop := ∀ {L : List (List Rat)} {k w m c : Nat}, ElB k w m c L → c ≤ w → w ≤ 9000 → m ≤ 400 → k < 1400 → VP f [yMs L, .int (c : Nat)] (.tup [yMs (elR L c).1.lines, yNs (elR L c).2])
theorem pelim_ok {d fi mu ng pl s : FD} (hd : Div d) (hf : PFndR fi) (hm : Mul mu) (hn : Neg ng) (hp : PPlm pl) (hs : Sign s) : PElim (P_eliminated d fi mu ng pl s) := fun {L k w m c} h hcw hw hm4 hk => by
  have hszl : szl = 16777216 := rfl
  have h0 := h.st 0 (Nat.zero_le _)
  have hL : L.length = m := h0.1
  refine vp_run ?_
  walk_at "v0"
  walk_at "v"
  refine vE_Lc true (vi_seq ?_)
  walk_at "v"
  refine ⟨_, _, .lst _, ?_⟩
  refine lc_map (xs := L) (enc := yRs) (f := yRs) (by omega) (fun l hl => ⟨_, tg_n, ?_⟩) ?_
  · dsimp only [wipeY, List.set]
    walk_at "v"
    exact ⟨rfl, rfl⟩
  refine NL.ow fun u hu => ?_
  walk_at "vl"
  refine vE_Lst true ?_
  walk_at "v"
  rename_i v hv
  refine vs_for (vi_range1 ?_)
  walk_at "v"
  refine ⟨_, rfl, ⟨by omega, by omega⟩, ?_⟩
  rw [Int.toNat_natCast]
  refine for_rng (fun t E o => o = [(v, .lst ((elR L t).2.map fun i => .int (i : Nat))), (u, .lst ((elR L t).1.lines.map yRs))] ∧ ∃ a3 a4 a5 a6 a7 a8, E = [some (.own u), some (.int (c : Nat)), some (.own v), a3, a4, a5, a6, a7, a8, none, none]) ⟨rfl, _, _, _, _, _, _, rfl⟩ (fun t E o ht ⟨eo, a3, a4, a5, a6, a7, a8, eE⟩ => ?_) (fun E o ⟨eo, a3, a4, a5, a6, a7, a8, eE⟩ => ?_)
  · subst eo; subst eE
    refine ⟨_, tg_n, ?_⟩
    rw [Int.zero_add]
    dsimp only [List.set]
    obtain ⟨s1, s2, s3⟩ := h.st t (by omega)
    obtain ⟨n1, n2, n3⟩ := h.st (t + 1) (by omega)
    have eS : elR L (t + 1) = (match gaS (elR L t).1 (elR L t).2.length t with
      | some T => (T, (elR L t).2 ++ [t])
      | none => elR L t) := rfl
    generalize elR L (t + 1) = U at *
    generalize elR L t = G at *
    obtain ⟨T, pv⟩ := G
    simp only at s1 s2 s3 eS
    walk_at "v"
    rw [List.length_map]
    refine (hf (L := T.lines) (r := pv.length) (c := t) (w := w) (k := k) s2 (by omega) (by omega) (by omega) (by omega) (by omega) (.own (.there .here))).mono (fun y o2 ⟨e1, e2⟩ => ?_) (fun _ _ z => z.elim)
    subst e1; subst e2
    unfold gaS at eS
    cases ef : fndL T.lines pv.length t with
    | none =>
      rw [ef] at eS
      have eS : U = (T, pv) := eS
      rw [eS]
      unfold yOn
      walk_at "v"
      exact ⟨rfl, _, _, _, _, _, _, rfl⟩
    | some i =>
      rw [ef] at eS
      have eS : U = (pivT (swT T i pv.length) pv.length t, pv ++ [t]) := eS
      rw [eS] at n1 n2 n3 ⊢
      dsimp only at n1 n2 n3 ⊢
      obtain ⟨f1, f2, f3⟩ := fnd_some ef
      have hr : pv.length < T.lines.length := by omega
      have ei : T.lines.getD i [] = T.lines[i] := getD_memS f2
      obtain ⟨i1, i2⟩ := s2 _ (List.getElem_mem f2)
      rw [← ei] at i1 i2
      have i1 : (T.ln i).length = w := i1
      have hfb : Bd k (at0 (T.ln i) t) := by
        have e : at0 (T.ln i) t = (T.ln i)[t]'(by omega) := getD_memS _
        rw [e]; exact i2 _ (List.getElem_mem _)
      obtain ⟨S, hS⟩ : ∃ S, S = swT T i pv.length := ⟨_, rfl⟩
      rw [← hS] at n1 n2 ⊢
      have hSl : S.lines.length = m := by rw [hS]; exact (swp_len ..).trans s1
      have hSr : S.ln pv.length = T.ln i := by rw [hS, sw_ln f2 hr]; unfold tau; rw [if_pos rfl]
      have hSb : ∀ l ∈ S.lines, l.length = w ∧ ABd k l := fun l hl => by
        obtain ⟨j, hj, rfl⟩ := List.getElem_of_mem hl
        have e : S.lines[j] = S.ln j := (getD_memS hj).symm
        have hj2 : tau i pv.length j < T.lines.length := tau_lt f2 hr (by omega)
        rw [e, hS, sw_ln f2 hr, show T.ln (tau i pv.length j) = T.lines[tau i pv.length j] from getD_memS hj2]
        exact s2 _ (List.getElem_mem _)
      have hlr : (S.ln pv.length).length = w := by rw [hSr]; exact i1
      have hdv : ABd k (divL (S.ln pv.length) (at0 (S.ln pv.length) t)) := by
        have e := piv_ln (T := S) (r := pv.length) (c := t) (i := pv.length) (by omega)
        rw [if_pos rfl] at e
        rw [← e]
        have e3 : (pivT S pv.length t).ln pv.length = (pivT S pv.length t).lines[pv.length]'(by omega) := getD_memS _
        rw [e3]
        exact (n2 _ (List.getElem_mem _)).2
      unfold yOn
      walk_at "v"
      rw [List.length_map]
      refine x_lst (.own (.there .here)) (atI_nat (rows_at f2)) ?_
      walk_at "v"
      refine x_lst (.own (.there .here)) (atI_nat (rows_at hr)) ?_
      walk_at "v"
      refine st_own (m := i) (.there .here) (ixN_nat (by rw [List.length_map]; exact f2)) ?_
      walk_at "v"
      refine x_lst (.lst _) (atI_nat (mapR_at (xs := T.ln i) (i := t) (by omega))) ?_
      walk_at "v"
      refine vc_p (hd Bd.one hfb (by omega) f3) ?_
      have hsc : Bd (1 + k) (1 / at0 (T.ln i) t) := Bd.one.div hfb
      walk_at "v"
      refine vE_Lc false (vi_seq ?_)
      walk_at "v"
      refine ⟨_, _, .lst _, ?_⟩
      refine lc_map (xs := T.ln i) (f := fun a => yR (a / at0 (T.ln i) t)) (by omega) (fun a ha => ⟨_, tg_n, ?_⟩) ?_
      · dsimp only [wipeY, List.set]
        have ba := i2 a ha
        have e : a / at0 (T.ln i) t = 1 / at0 (T.ln i) t * a := by rw [Rat.div_def, Rat.div_def, Rat.one_mul, Rat.mul_comm]
        rw [e]
        walk_at "v"
        exact ⟨rfl, rfl⟩
      refine NL.fz ?_
      rw [show ((T.ln i).map fun a => yR (a / at0 (T.ln i) t)) = (divL (T.ln i) (at0 (T.ln i) t)).map yR by unfold divL; rw [List.map_map]; rfl]
      walk_at "v"
      refine st_own (m := pv.length) (.there .here) (ixN_nat (by rw [List.length_set, List.length_map]; exact hr)) ?_
      have es : ((T.lines.map yRs).set i (yRs (T.lines.getD pv.length []))).set pv.length (yRs (divL (T.ln i) (at0 (T.ln i) t))) = (pvL S pv.length t 0).map yRs := by
        rw [← List.map_set, ← List.map_set, ← pvL_0, hSr]
        congr 1
        rw [hS]
        show _ = (swp T.lines [] i pv.length).set _ _
        unfold swp
        rw [List.set_set]
      rw [show ((T.lines.map yRs).set i (yRs (T.lines.getD pv.length []))).set pv.length (Y.lst ((divL (T.ln i) (at0 (T.ln i) t)).map yR)) = (pvL S pv.length t 0).map yRs from es]
      refine sq_nx ?_
      walk_at "v"
      refine vs_for (vi_range1 ?_)
      walk_at "v"
      rw [List.length_map, pvL_len]
      refine ⟨_, rfl, ⟨by omega, by omega⟩, ?_⟩
      rw [Int.toNat_natCast]
      refine for_rng (fun q E o1 => o1 = [(v, .lst (pv.map fun i => .int (i : Nat))), (u, .lst ((pvL S pv.length t q).map yRs))] ∧ ∃ z, E = [some (.own u), some (.int (c : Nat)), some (.own v), some (.int (t : Nat)), some (.int (i : Nat)), some (.int (pv.length : Nat)), some (yRs (T.lines.getD i [])), some (yR (1 / at0 (T.ln i) t)), z, none, none]) ⟨rfl, _, rfl⟩ (fun q E o1 hq ⟨eo, z, eE⟩ => ?_) (fun E o1 ⟨eo, z, eE⟩ => ?_)
      · subst eo; subst eE
        refine ⟨_, tg_n, ?_⟩
        rw [Int.zero_add]
        dsimp only [List.set]
        have e0 : (pvL S pv.length t q).getD q [] = if q = pv.length then divL (S.ln pv.length) (at0 (S.ln pv.length) t) else S.ln q := by
          rw [pvL_at hq, if_neg (Nat.lt_irrefl q)]
        have er : (pvL S pv.length t q).getD pv.length [] = divL (S.ln pv.length) (at0 (S.ln pv.length) t) := by
          rw [pvL_at (by omega), if_pos rfl]
        have eq : S.ln q = S.lines[q]'hq := getD_memS hq
        obtain ⟨hlt, hbt⟩ := hSb _ (List.getElem_mem hq)
        rw [← eq] at hlt hbt
        have hbc : Bd k (at0 (S.ln q) t) := by
          have e : at0 (S.ln q) t = (S.ln q)[t]'(by omega) := getD_memS _
          rw [e]; exact hbt _ (List.getElem_mem _)
        walk_at "v"
        · rename_i z1
          have z2 : q = pv.length := by omega
          exact ⟨by rw [← pvL_same (.inl z2)], _, rfl⟩
        · rename_i z1
          have z2 : q ≠ pv.length := by omega
          rw [if_neg z2] at e0
          have hpl : q < (pvL S pv.length t q).length := by rw [pvL_len]; exact hq
          refine x_lst (.own (.there .here)) (atI_nat (rows_at hpl)) ?_
          rw [e0]
          walk_at "v"
          refine x_lst (.lst _) (atI_nat (mapR_at (xs := S.ln q) (i := t) (by omega))) ?_
          walk_at "v"
          · rename_i z3
            have z3 : at0 (S.ln q) t = 0 := Classical.byContradiction fun w => cmpR_ne0.mpr w z3
            exact ⟨by rw [← pvL_same (.inr ⟨z3, by omega⟩)], _, rfl⟩
          · rename_i z3
            refine x_lst (.own (.there .here)) (atI_nat (rows_at hpl)) ?_
            rw [e0]
            walk_at "v"
            refine x_lst (.own (.there .here)) (atI_nat (rows_at (by rw [pvL_len]; omega))) ?_
            rw [er]
            walk_at "v"
            refine x_lst (.own (.there .here)) (atI_nat (rows_at hpl)) ?_
            rw [e0]
            walk_at "v"
            refine x_lst (.lst _) (atI_nat (mapR_at (xs := S.ln q) (i := t) (by omega))) ?_
            walk_at "v"
            refine vc_p (hp (k := k) (by rw [divL_len, hlt, hlr]) (by omega) hbt hdv hbc (by omega)) ?_
            walk_at "v"
            refine st_own (m := q) (.there .here) (ixN_nat (by rw [List.length_map]; exact hpl)) ?_
            refine ⟨?_, _, rfl⟩
            rw [← List.map_set]
            show [(v, _), (u, C.lst (((pvL S pv.length t q).set q _).map yRs))] = _
            rw [pvL_set hq z2]
      · subst eo; subst eE
        rw [pvL_end]
        walk_at "v"
        refine ⟨chk_L (.own .here), ?_⟩
        walk_at "v"
        refine m_append' .here (by rw [List.length_map]; omega) ?_
        refine ⟨?_, _, _, _, _, _, _, rfl⟩
        rw [map_snoc1]
  · subst eo; subst eE
    refine sq_nx ?_
    refine vs_freeze (n := v) .here (by walk_at "fz") ?_
    refine vs_freeze (n := u) .here (by walk_at "fz") ?_
    walk_at "v"
end
section
noncomputable def P_rank (c_check_rows : FD) (c_column_count : FD) (c_eliminated : FD) : FD := fnRun (sSq (sEx (dCall c_check_rows (aC (dV 0) aN) []))
    (sRt (dCall fLen (aC (dIx (dCall c_eliminated (aC (dV 0) (aC (dCall c_column_count (aC (dV 0) aN) []) aN)) []) (dC (.int 1))) aN) []))) 1
noncomputable def P_solve (c_check_system : FD) (c_column_count : FD) (c_eliminated : FD) (c_sign : FD) (c_unit_row : FD) : FD := fnRun (sSq (sEx (dCall c_check_system (aC (dV 0) (aC (dV 1) aN)) []))
    (sSq (sAs (dCall c_column_count (aC (dV 0) aN) []) (ofG (gN 2)))
    (sSq (sAs (dLst aN) (ofG (gN 3)))
    (sSq (sFor (iEnum (dV 0)) (gT [4, 5]) (sEx (dM chkL mAppend (dV 3) (aC (dB .Add (dB .Add (dCall fList (aC (dV 5) aN) []) (dLst (aC (dIx (dV 1) (dV 4)) aN))) (dCall c_unit_row (aC (dCall fLen (aC (dV 0) aN) []) (aC (dV 4) aN)) [])) aN))))
    (sSq (sAs (dCall c_eliminated (aC (dV 3) (aC (dV 2) aN)) []) (ofG (gT [3, 6])))
    (sSq (sFor (iRange2 (dCall fLen (aC (dV 6) aN) []) (dCall fLen (aC (dV 3) aN) [])) (gN 4) (sIf (tB (dCmp .NotEq (dCall c_sign (aC (dIx (dIx (dV 3) (dV 4)) (dV 2)) aN) []) (dC (.int 0)))) (sRt (dTup (aC (dC (.str "contradiction")) (aC (dSl (dIx (dV 3) (dV 4)) (oS (dB .Add (dV 2) (dC (.int 1)))) oN) aN)))) sNx))
    (sSq (sAs (dLc (iRange1 (dV 2)) (gN 8) tY (dC (.tup [(.int 0), (.int 1)])) [8]) (ofG (gN 7)))
    (sSq (sFor (iEnum (dV 6)) (gT [4, 8]) (sAs (dIx (dIx (dV 3) (dV 4)) (dV 2)) (gIx (dV 7) (dV 8))))
    (sRt (dTup (aC (dC (.str "solution")) (aC (dV 7) aN)))))))))))) 9
noncomputable def P_is_solution (c_column_count : FD) (c_dot : FD) : FD := fnRun (sSq (sIf (tB (dCmp .NotEq (dCall fLen (aC (dV 2) aN) []) (dCall c_column_count (aC (dV 0) aN) []))) (sRt (dC (.bl false))) sNx)
    (sRt (dCall fAll (aC (dLc (iZip (dV 0) (dV 1)) (gT [3, 4]) tY (dCmp .Eq (dCall c_dot (aC (dV 3) (aC (dV 2) aN)) []) (dV 4)) [3, 4]) aN) []))) 5
noncomputable def P_is_contradiction (c_column_count : FD) (c_dot : FD) (c_sign : FD) : FD := fnRun (sSq (sIf (tB (dCmp .NotEq (dCall fLen (aC (dV 2) aN) []) (dCall fLen (aC (dV 0) aN) []))) (sRt (dC (.bl false))) sNx)
    (sSq (sFor (iRange1 (dCall c_column_count (aC (dV 0) aN) [])) (gN 3) (sIf (tB (dCmp .NotEq (dCall c_sign (aC (dCall c_dot (aC (dLc (iSeq (dV 0)) (gN 4) tY (dIx (dV 4) (dV 3)) [4]) (aC (dV 2) aN)) []) aN) []) (dC (.int 0)))) (sRt (dC (.bl false))) sNx))
    (sRt (dCmp .NotEq (dCall c_sign (aC (dCall c_dot (aC (dV 1) (aC (dV 2) aN)) []) aN) []) (dC (.int 0)))))) 5
section
variable {A : List (List Rat)} {b : List Rat} {n K : Nat}
abbrev rowS2 (A : List (List Rat)) (b : List Rat) (k : Nat) : List Rat := (A.getD k [] ++ [at0 b k]) ++ (List.range A.length).map (fun o => if o = k then (1 : Rat) else 0)
theorem cut_W (h : SyOk A b n) : (gaL0 A b).map (List.take (n + 1 + A.length)) = (List.range A.length).map (rowS2 A b) := by
  rw [List.map_map]
  refine List.map_congr_left fun k hk => ?_
  have hk := List.mem_range.mp hk
  show (gaLn A b k).take (n + 1 + A.length) = _
  rw [show gaLn A b k = rowS2 A b k ++ [0] by rw [List.append_assoc], List.take_left' (by rw [List.length_append, h.l1 hk, List.length_map, List.length_range])]
theorem el_ga {L : List (List Rat)} {w c : Nat} (hL : (gaL0 A b).map (List.take w) = L) (hc : c ≤ w) : (elR L c).1.lines = (gaA A b n c).lines.map (List.take w) ∧ (elR L c).2 = gaP A b n c := gaR_take (T' := ⟨L, [], []⟩) (T0 := gaT0 A b n) hL.symm hc
theorem elB_of (h : SyOk A b n) (z : SySz K A b n) {L : List (List Rat)} {w c : Nat} (hL : (gaL0 A b).map (List.take w) = L) (hw : w ≤ n + 1 + A.length) (hc : c ≤ w) : ElB K w A.length c L where
  st := fun c' hc' => by
    obtain ⟨e1, e2⟩ := el_ga (n := n) hL (show c' ≤ w by omega)
    have hi := ga_inv h (c := c') (by omega)
    rw [e1, e2]
    refine ⟨by rw [List.length_map, hi.ok.ll, gaL0_len], fun l hl => ?_, by have := hi.pl; rwa [gaL0_len] at this⟩
    obtain ⟨l0, h0, rfl⟩ := List.mem_map.mp hl
    refine ⟨by rw [List.length_take, hi.ok.lw _ h0]; omega, fun x hx => ga_bd z hi.ok _ h0 x (List.mem_of_mem_take hx)⟩
theorem fct_cut {l : List Rat} {n m : Nat} (hl : l.length = n + 1 + m + 1) : (l.take (n + 1 + m)).drop (n + 1) = (List.range m).map fun k => at0 l (n + 1 + k) := by
  refine List.ext_getElem (by rw [List.length_drop, List.length_take, List.length_map, List.length_range]; omega) fun i h1 h2 => ?_
  have hi : i < m := by rw [List.length_map, List.length_range] at h2; exact h2
  rw [List.getElem_drop, List.getElem_take, List.getElem_map, List.getElem_range]
  exact (getD_memS _).symm
def PSolveS (f : FD) : Prop := ∀ {A : List (List Rat)} {b : List Rat} {K : Nat}, SyOk A b (colC A) → SySz K A b (colC A) → A.length ≤ 72 → colC A ≤ 72 → K < 1400 → VP f [yMs A, yRs b] (slvY A b (colC A))
theorem psolves_ok {ck cc el sg un : FD} (h1 : PChkS ck) (h2 : PColC cc) (h3 : PElim el) (h4 : Sign sg) (h5 : PUnit un) : PSolveS (P_solve ck cc el sg un) := fun {A b K} h z hm hn hK => by
  have hszl : szl = 16777216 := rfl
  have e0 : (A.map yRs).length = A.length := List.length_map ..
  have hbl := h.bl
  obtain ⟨n, en⟩ : ∃ n, n = colC A := ⟨_, rfl⟩
  rw [← en] at h z hn ⊢
  refine vp_run ?_
  walk_at "v0"
  walk_at "v"
  refine vc_p (h1 (by rw [← en]; exact h.al) hm (by omega) h.bl) ?_
  walk_at "v"
  refine vc_p (h2 A) ?_
  rw [← en]
  walk_at "vl"
  refine vE_Lst true ?_
  walk_at "v"
  rename_i u hu
  refine vs_for (vi_enum ?_)
  walk_at "v"
  refine ⟨_, _, .lst _, ?_⟩
  refine for_enumI (fun t E o => o = [(u, .lst (((List.range t).map (rowS2 A b)).map yRs))] ∧ ∃ a4 a5, E = [some (yMs A), some (yRs b), some (.int (n : Nat)), some (.own u), a4, a5, none, none, none]) ⟨rfl, _, _, rfl⟩ (fun t ht E o ⟨eo, a4, a5, eE⟩ => ?_) (fun E o ⟨eo, a4, a5, eE⟩ => ?_)
  · subst eo; subst eE
    refine ⟨_, tg_t rfl, ?_⟩
    dsimp only [setY, List.set]
    have eA : A.getD t [] = A[t] := getD_memS ht
    have hak : (A[t]).length = n := h.al _ (List.getElem_mem ht)
    walk_at "v"
    refine ⟨chk_L (.own .here), ?_⟩
    walk_at "v"
    refine x_lst (.lst _) (atI_nat (mapR_at (xs := b) (i := t) (by omega))) ?_
    walk_at "v"
    refine b_addL false (.lst _) (.lst _) (by rw [List.length_map, List.length_singleton]; omega) (NL.fz ?_)
    walk_at "v"
    rw [e0]
    refine vc_p (h5 A.length t (by omega)) ?_
    refine b_addL false (.lst _) (.lst _) (by rw [List.length_append, List.length_map, List.length_singleton, List.length_map, List.length_map, List.length_range]; omega) (NL.fz ?_)
    walk_at "v"
    refine m_append' .here (by rw [List.length_map, List.length_map, List.length_range]; omega) ?_
    refine ⟨?_, _, _, rfl⟩
    rw [map_rng (rowS2 A b), map_snoc1 yRs]
    have e : yRs (rowS2 A b t) = Y.lst ((A[t]).map yR ++ [yR (b.getD t 0)] ++ ((List.range A.length).map fun o => if o = t then (1 : Rat) else 0).map yR) := by
      rw [← eA]
      show Y.lst (((A.getD t [] ++ [at0 b t]) ++ _).map yR) = _
      rw [List.map_append, List.map_append]
      rfl
    rw [e]
  · subst eo; subst eE
    have eB := elB_of h z (cut_W h) (Nat.le_refl _) (show n ≤ n + 1 + A.length by omega)
    obtain ⟨e1, e2⟩ := el_ga (n := n) (cut_W h) (show n ≤ n + 1 + A.length by omega)
    have hi := ga_inv h (c := n) (by omega)
    have hpl : (gaP A b n n).length ≤ A.length := by have := hi.pl; rwa [gaL0_len] at this
    have hTl : (gaA A b n n).lines.length = A.length := by rw [hi.ok.ll, gaL0_len]
    have hbd := ga_bd z hi.ok
    have hlw := hi.ok.lw
    refine sq_nx ?_
    refine vs_freeze (n := u) .here (by walk_at "fz") ?_
    walk_at "s1"
    refine vs_asT ?_
    walk_at "v"
    refine vc_p (h3 eB (by omega) (by omega) (by omega) hK) ?_
    rw [e1, e2]
    refine ⟨_, rfl, rfl, ?_⟩
    dsimp only [setY, List.set]
    unfold slvY
    have hpc := hi.pc
    have hinj : ∀ k, k < (gaP A b n n).length → (gaP A b n n).getD k 0 < n := hi.pc
    generalize gaA A b n n = T at *
    generalize gaP A b n n = pv at *
    clear hi eB e1 e2
    refine sq_nx ?_
    walk_at "v"
    refine vs_for (vi_range2 ?_)
    walk_at "v"
    rw [List.length_map, List.length_map, List.length_map, hTl]
    refine ⟨_, _, rfl, rfl, ⟨by omega, by omega⟩, ⟨by omega, by omega⟩, ?_⟩
    rw [show (((A.length : Nat) : Int) - ((pv.length : Nat) : Int)).toNat = A.length - pv.length by omega]
    have hrow : ∀ i, i < A.length → ((T.lines.map (List.take (n + 1 + A.length))).map yRs)[i]? = some (yRs ((T.ln i).take (n + 1 + A.length))) := fun i hi => by
      rw [rows_at (by rw [List.length_map]; omega), ln_take]
    have hlen : ∀ i, i < A.length → (T.ln i).length = n + 1 + A.length + 1 := fun i hi => by
      rw [show T.ln i = T.lines[i]'(by omega) from getD_memS _]
      exact hlw _ (List.getElem_mem _)
    have hitm : ∀ i, i < A.length → (((T.ln i).take (n + 1 + A.length)).map yR)[n]? = some (yR (at0 (T.ln i) n)) := fun i hi => by
      rw [mapR_at (by rw [List.length_take, hlen i hi]; omega)]
      rw [show ((T.ln i).take (n + 1 + A.length)).getD n 0 = at0 (T.ln i) n from at_take (by omega)]
    have hbn : ∀ i, i < A.length → Bd K (at0 (T.ln i) n) := fun i hi => by
      have e : at0 (T.ln i) n = (T.ln i)[n]'(by rw [hlen i hi]; omega) := getD_memS _
      rw [e]
      have e2 : T.ln i = T.lines[i]'(by omega) := getD_memS _
      exact hbd (T.ln i) (by rw [e2]; exact List.getElem_mem _) _ (List.getElem_mem _)
    refine for_rng (fun t E o => o = [] ∧ (∀ i, pv.length ≤ i → i < pv.length + t → at0 (T.lines.getD i []) n = 0) ∧ ∃ a4, E = [some (yMs A), some (yRs b), some (.int (n : Nat)), some (yMs (T.lines.map (List.take (n + 1 + A.length)))), a4, a5, some (yNs pv), none, none]) ⟨rfl, fun i h1 h2 => by omega, _, rfl⟩ (fun t E o ht ⟨eo, hz, a4, eE⟩ => ?_) (fun E o ⟨eo, hz, a4, eE⟩ => ?_)
    · subst eo; subst eE
      refine ⟨_, tg_n, ?_⟩
      rw [show ((pv.length : Nat) : Int) + (t : Nat) = ((pv.length + t : Nat) : Int) by omega]
      dsimp only [List.set]
      have hl : pv.length + t < A.length := by omega
      have hb1 := hbn _ hl
      walk_at "v"
      refine x_lst (.lst _) (atI_nat (hrow _ hl)) ?_
      walk_at "v"
      refine x_lst (.lst _) (atI_nat (hitm _ hl)) ?_
      walk_at "v"
      · rename_i w
        refine ⟨rfl, fun i h1 h2 => ?_, _, rfl⟩
        by_cases e : i = pv.length + t
        · rw [e]; exact Classical.byContradiction fun q => cmpR_ne0.mpr q w
        · exact hz i h1 (by omega)
      · rename_i w
        refine x_lst (.lst _) (atI_nat (hrow _ hl)) ?_
        walk_at "v"
        rw [show ((n : Nat) : Int) + 1 = ((n + 1 : Nat) : Int) by omega, cutY_from, ← List.map_drop, fct_cut (hlen _ hl)]
        walk_at "v"
        rw [fnd_at (by omega) (by omega) (cmpR_ne0.mp w) fun k h1 h2 => hz k h1 h2]
    · subst eo; subst eE
      have e : fndL T.lines pv.length n = none := List.find?_eq_none.mpr fun i hi => by
        have hi := List.mem_range.mp hi
        rw [Bool.and_eq_true]
        intro ⟨q1, q2⟩
        exact of_decide_eq_true q2 (hz i (of_decide_eq_true q1) (by omega))
      rw [e]
      walk_at "v"
      refine vE_Lc true (vi_range1 ?_)
      walk_at "v"
      refine ⟨_, rfl, ⟨by omega, by omega⟩, ?_⟩
      refine lc_rngS (f := fun _ => 0) (by omega) (fun i hi => ⟨_, tg_n, ?_⟩) ?_
      · dsimp only [wipeY, List.set]
        walk_at "v"
        exact ⟨rfl, rfl⟩
      refine NL.ow fun w hw => ?_
      rw [show ((List.range n).map fun _ => (0 : Rat)) = valG T pv n 0 by rw [List.map_const', List.length_range]; rfl]
      walk_at "v"
      refine vs_for (vi_enum ?_)
      walk_at "v"
      refine ⟨_, _, .lst _, ?_⟩
      refine for_enumI (fun t E o => o = [(w, .lst ((valG T pv n t).map yR))] ∧ ∃ a4 a8, E = [some (yMs A), some (yRs b), some (.int (n : Nat)), some (yMs (T.lines.map (List.take (n + 1 + A.length)))), a4, a5, some (yNs pv), some (.own w), a8]) ⟨rfl, _, _, rfl⟩ (fun t ht E o ⟨eo, a4, a8, eE⟩ => ?_) (fun E o ⟨eo, a4, a8, eE⟩ => ?_)
      · subst eo; subst eE
        refine ⟨_, tg_t rfl, ?_⟩
        dsimp only [setY, List.set]
        have hp := hinj t ht
        have ep : pv[t] = pv.getD t 0 := (getD_memS ht).symm
        rw [ep]
        walk_at "v"
        refine x_lst (.lst _) (atI_nat (hrow t (by omega))) ?_
        walk_at "v"
        refine x_lst (.lst _) (atI_nat (hitm t (by omega))) ?_
        walk_at "v"
        refine st_own (m := pv.getD t 0) .here (ixN_nat (by rw [List.length_map, val_len]; exact hp)) ?_
        rw [← List.map_set]
        exact ⟨rfl, _, _, rfl⟩
      · subst eo; subst eE
        refine sq_nx ?_
        refine vs_freeze (n := w) .here (by walk_at "fz") ?_
        walk_at "v"
end
end
section
noncomputable def P__law_add (c__law_ratio : FD) : FD := fnRun (sRt (dCall c__law_ratio (aC (dB .Add (dB .Mult (dIx (dV 0) (dC (.int 0))) (dIx (dV 1) (dC (.int 1)))) (dB .Mult (dIx (dV 1) (dC (.int 0))) (dIx (dV 0) (dC (.int 1))))) (aC (dB .Mult (dIx (dV 0) (dC (.int 1))) (dIx (dV 1) (dC (.int 1)))) aN)) [])) 2
noncomputable def P__law_times (c__law_ratio : FD) : FD := fnRun (sRt (dCall c__law_ratio (aC (dB .Mult (dIx (dV 0) (dC (.int 0))) (dIx (dV 1) (dC (.int 0)))) (aC (dB .Mult (dIx (dV 0) (dC (.int 1))) (dIx (dV 1) (dC (.int 1)))) aN)) [])) 2
noncomputable def P__law_total (c__law_add : FD) : FD := fnRun (sSq (sAs (dTup (aC (dC (.int 0)) (aC (dC (.int 1)) aN))) (ofG (gN 1)))
    (sSq (sFor (iSeq (dV 0)) (gN 2) (sAs (dCall c__law_add (aC (dV 1) (aC (dV 2) aN)) []) (ofG (gN 1))))
    (sRt (dV 1)))) 3
noncomputable def P__law_dot (c__law_times : FD) (c__law_total : FD) : FD := fnRun (sRt (dCall c__law_total (aC (dLc (iRange1 (dCall fMin (aC (dCall fLen (aC (dV 0) aN) []) (aC (dCall fLen (aC (dV 1) aN) []) aN)) [])) (gN 2) tY (dCall c__law_times (aC (dIx (dV 0) (dV 2)) (aC (dIx (dV 1) (dV 2)) aN)) []) [2]) aN) [])) 3
noncomputable def P__law_small (c__law_draw : FD) (c__law_ratio : FD) : FD := fnRun (sSq (sIf (tB (dCmp .Gt (dCall c__law_draw (aC (dV 0) (aC (dC (.int 4)) aN)) []) (dC (.int 0)))) (sRt (dTup (aC (dB .Sub (dCall c__law_draw (aC (dV 0) (aC (dC (.int 6)) aN)) []) (dC (.int 2))) (aC (dC (.int 1)) aN)))) sNx)
    (sRt (dCall c__law_ratio (aC (dB .Sub (dCall c__law_draw (aC (dV 0) (aC (dC (.int 9)) aN)) []) (dC (.int 4))) (aC (dB .Add (dC (.int 1)) (dCall c__law_draw (aC (dV 0) (aC (dC (.int 4)) aN)) [])) aN)) []))) 1
def LAddK (f : FD) : Prop := ∀ {a b : Rat} {k l : Nat}, Bd k a → Bd l b → 2 * (k + l + 1) < 4990 → VP f [yR a, yR b] (yR (a + b))
theorem laddk_ok {c : FD} (hc : LRatio c) : LAddK (P__law_add c) := fun {a b k l} ha hb h => by
  have := cm_nd ha hb (by omega); have := cm_nd hb ha (by omega); have := cm_dd ha hb (by omega)
  refine vp_run ?_
  walk_at "v0"
  walk_at "v"
  refine vc_p (hc _ _ (k + l + 1) den_ne ?_ (Nat.lt_of_lt_of_le (den_lt ha hb) (Nat.pow_le_pow_right (by decide) (by omega))) (by omega)) ?_
  · refine Nat.lt_of_le_of_lt (Int.natAbs_add_le _ _) ?_
    rw [Int.natAbs_mul, Int.natAbs_mul, Int.natAbs_natCast, Int.natAbs_natCast]
    have h1 := pow_mul_lt ha.1 hb.2
    have h2 := pow_mul_lt hb.1 ha.2
    rw [Nat.add_comm l k] at h2
    rw [Nat.pow_succ]
    omega
  walk_at "v"
  rw [den_cast, divInt_nat, ← Rat.add_def']
def LTimes (f : FD) : Prop := ∀ {a b : Rat} {k l : Nat}, Bd k a → Bd l b → 2 * (k + l) < 4990 → VP f [yR a, yR b] (yR (a * b))
theorem ltimes_ok {c : FD} (hc : LRatio c) : LTimes (P__law_times c) := fun {a b k l} ha hb h => by
  have := cm_nn ha hb (by omega); have := cm_dd ha hb (by omega)
  refine vp_run ?_
  walk_at "v0"
  walk_at "v"
  refine vc_p (hc _ _ (k + l) den_ne ?_ (den_lt ha hb) (by omega)) ?_
  · rw [Int.natAbs_mul]; exact pow_mul_lt ha.1 hb.1
  walk_at "v"
  rw [den_cast, divInt_nat, ← Rat.mul_def']
def LTotal (f : FD) : Prop := ∀ {xs : List Rat} {k : Nat}, ABd k xs → (xs.length + 1) * (k + 1) < 2400 → VP f [.lst (xs.map yR)] (yR (totR xs))
theorem ltotal_ok {c : FD} (hc : LAddK c) : LTotal (P__law_total c) := fun {xs k} hx hk => by
  refine vp_run ?_
  walk_at "v0"
  walk_at "v"
  refine vs_for (vi_seq ?_)
  walk_at "v"
  refine ⟨_, _, .lst _, ?_⟩
  refine for_mapI (fun t E o => o = [] ∧ ∃ x, E = [some (.lst (xs.map yR)), some (yR (totR (xs.take t))), x]) ⟨rfl, _, rfl⟩ (fun t ht E o ⟨eo, x, eE⟩ => ?_) (fun E o ⟨eo, x, eE⟩ => ?_)
  · subst eo; subst eE
    refine ⟨_, tg_n, ?_⟩
    walk_at "set"
    have b1 := totR_bd hx t (by omega)
    have b2 := hx _ (List.getElem_mem (n := t) ht)
    have := mul_le_of (k := k) ht
    rw [Nat.succ_mul] at hk
    walk_at "v"
    refine vc_p (hc b1 b2 (by omega)) ?_
    rw [← totR_take]
    walk_at "v"
    exact ⟨rfl, _, rfl⟩
  · subst eo; subst eE
    rw [List.take_length]
    walk_at "v"
def LDot (f : FD) : Prop := ∀ {xs ys : List Rat} {k l : Nat}, ABd k xs → ABd l ys → (min xs.length ys.length + 1) * (k + l + 1) < 2400 → xs.length < 1000000 → ys.length < 1000000 → VP f [.lst (xs.map yR), .lst (ys.map yR)] (yR (dotR xs ys))
theorem min_int (a b : Nat) : (if (b : Int) < (a : Int) then (b : Int) else (a : Int)) = ((min a b : Nat) : Int) := by
  split <;> omega
theorem ldot_ok {m t : FD} (hm : LTimes m) (ht : LTotal t) : LDot (P__law_dot m t) := fun {xs ys k l} hx hy hk l1 l2 => by
  have hl : min xs.length ys.length + 1 < 2400 := Nat.lt_of_le_of_lt (Nat.le_mul_of_pos_right _ (by omega)) hk
  have hk2 : 1 * (k + l + 1) ≤ (min xs.length ys.length + 1) * (k + l + 1) := Nat.mul_le_mul_right _ (by omega)
  refine vp_run ?_
  walk_at "v0"
  walk_at "v"
  refine vE_Lc false (vi_range1 ?_)
  walk_at "v"
  rw [List.length_map, List.length_map, min_int]
  refine ⟨_, rfl, ⟨by omega, by omega⟩, ?_⟩
  rw [Int.toNat_natCast]
  unfold rngY
  refine lc_map (f := fun i => yR (xs.getD i 0 * ys.getD i 0)) (by rw [List.length_range]; have : szl = 16777216 := rfl; omega) (fun i hi => ?_) ?_
  · rw [List.mem_range] at hi
    have h1 : i < xs.length := by omega
    have h2 : i < ys.length := by omega
    have b1 := hx _ (List.getElem_mem (n := i) h1)
    have b2 := hy _ (List.getElem_mem (n := i) h2)
    refine ⟨_, tg_n, ?_⟩
    dsimp only [wipeY, List.set]
    rw [Int.zero_add]
    walk_at "v"
    refine x_lst (.lst _) (y := yR xs[i]) (atI_nat (by simp [h1])) ?_
    walk_at "v"
    refine x_lst (.lst _) (y := yR ys[i]) (atI_nat (by simp [h2])) ?_
    walk_at "v"
    refine vc_p (hm b1 b2 (by omega)) ?_
    exact ⟨by rw [getD_eq h1, getD_eq h2], rfl⟩
  · refine NL.fz ?_
    walk_at "v"
    have e : (List.range (min xs.length ys.length)).map (fun i => yR (xs.getD i 0 * ys.getD i 0)) = ((xs.zip ys).map fun p => p.1 * p.2).map yR := by
      refine List.ext_getElem (by simp) fun i h1 h2 => ?_
      simp only [List.length_map, List.length_range] at h1
      have h3 : i < xs.length := by omega
      have h4 : i < ys.length := by omega
      simp [List.getElem_zip, h3, h4]
    rw [e]
    refine vc_p (ht (hx.zip hy) (by rw [List.length_map, List.length_zip]; exact hk)) ?_
    walk_at "v"
    rfl
def LSmall (f : FD) : Prop := ∀ (n : Nat) (c : C) (ns : List Int) (m : Nat), DK ns m c → m < 2 ^ 59 → VF f [.own n] [(n, c)] (fun y o => ∃ a c', y = yR a ∧ Bd 3 a ∧ o = [(n, c')] ∧ DK ns (m + 3) c') noq
theorem lsmall_ok {d r : FD} (hd : Draw d) (hr : LRatio r) : LSmall (P__law_small d r) := fun n c ns m hk hm => by
  refine vf_run ?_
  walk_at "v0"
  walk_at "v"
  refine draw_call hd .here hk (by omega) (by decide) (by decide) fun r1 c1 r10 r11 k1 => ?_
  walk_at "v"
  · refine draw_call hd .here k1 (by omega) (by decide) (by decide) fun r2 c2 r20 r21 k2 => ?_
    walk_at "v"
    exact ret_v (List.Sublist.refl _) ⟨_, _, yR_int _, Bd.int (by omega) (by decide), rfl, k2.mono (by omega)⟩
  · refine draw_call hd .here k1 (by omega) (by decide) (by decide) fun r2 c2 r20 r21 k2 => ?_
    walk_at "v"
    refine draw_call hd .here k2 (by omega) (by decide) (by decide) fun r3 c3 r30 r31 k3 => ?_
    walk_at "v"
    refine vc_p (hr _ _ 3 (by omega) (by omega) (by omega) (by decide)) ?_
    walk_at "v"
    exact ret_v (List.Sublist.refl _) ⟨_, _, rfl, Bd.divInt (by omega) (by omega) (by omega), rfl, k3.mono (by omega)⟩
theorem lsmall_call {d : FD} (hd : LSmall d) {o : OC} {n : Nat} {c : C} {k : C → OC} {ns : List Int} {m : Nat} {Q : Y → OC → Prop} {X : XQ} (a : At o n c k) (hk : DK ns m c) (hm : m < 2 ^ 59)
    (q : ∀ r c', Bd 3 r → DK ns (m + 3) c' → Q (yR r) (k c')) : VF d [.own n] o Q X :=
  vc_own a (hd n c ns m hk hm) (fun y o1 ⟨r, c1, e1, r0, e2, k1⟩ => ⟨c1, e2, by subst e1; exact q r c1 r0 k1⟩) (fun _ _ z => z.elim)
theorem eqY_nil {α : Type} {f : α → Y} {xs : List α} : eqY (.lst (xs.map f)) (.lst []) = xs.isEmpty := by cases xs <;> rfl
end
section
theorem num0 {q : Rat} : q.num = 0 ↔ q = 0 := ⟨fun h => by
  have := Rat.num_divInt_den q
  rw [h] at this
  rw [← this]
  exact Rat.zero_divInt _, fun h => by rw [h]; rfl⟩
end
section
noncomputable def P__law_system (c__law_draw : FD) (c__law_small : FD) (c__law_times : FD) : FD := fnRun (sSq (sAs (dCall c__law_draw (aC (dV 0) (aC (dC (.int 5)) aN)) []) (ofG (gN 1)))
    (sSq (sAs (dLst aN) (ofG (gN 2)))
    (sSq (sFor (iRange1 (dCall c__law_draw (aC (dV 0) (aC (dC (.int 5)) aN)) [])) (gN 3) (sSq (sAs (dLc (iRange1 (dV 1)) (gN 7) tY (dCall c__law_small (aC (dV 0) aN) []) [7]) (ofG (gN 4)))
    (sSq (sIf (tAnd (tB (dCmp .NotEq (dV 2) (dLst aN))) (tB (dCmp .Eq (dCall c__law_draw (aC (dV 0) (aC (dC (.int 3)) aN)) []) (dC (.int 0))))) (sSq (sAs (dIx (dV 2) (dCall c__law_draw (aC (dV 0) (aC (dCall fLen (aC (dV 2) aN) []) aN)) [])) (ofG (gN 5)))
    (sSq (sAs (dCall c__law_small (aC (dV 0) aN) []) (ofG (gN 6)))
    (sAs (dLc (iSeq (dV 5)) (gN 8) tY (dCall c__law_times (aC (dV 6) (aC (dV 8) aN)) []) [8]) (ofG (gN 4))))) sNx)
    (sEx (dM chkL mAppend (dV 2) (aC (dV 4) aN))))))
    (sRt (dV 2))))) 9
def SyR (r : List Rat) (b : Rat) : Prop := ∃ D : Nat, 0 < D ∧ D ≤ 2 ^ 78 ∧ (∀ x ∈ r, Bc D (2 ^ 78) x) ∧ Bc D (2 ^ 78) b
theorem sg4 {m : Nat} (h : m ≤ 4) : sgM m (2 ^ 78) < 2 ^ 326 := by
  have : m = 0 ∨ m = 1 ∨ m = 2 ∨ m = 3 ∨ m = 4 := by omega
  rcases this with rfl | rfl | rfl | rfl | rfl <;> decide +kernel
theorem sysz_of {A : List (List Rat)} {b : List Rat} {n : Nat} (h : SyOk A b n) (hm : A.length ≤ 4) (hr : ∀ k, k < A.length → SyR (A.getD k []) (at0 b k)) : SySz 326 A b n where
  ex := by
    refine ⟨2 ^ 78, fun k hk => ?_, sg4 hm⟩
    obtain ⟨D, d0, d1, d2, d3⟩ := hr k hk
    have one : Bc D (2 ^ 78) 1 := ⟨D, by rw [Rat.one_mul]; rfl, by rw [Int.natAbs_natCast]; exact d1⟩
    have zero : Bc D (2 ^ 78) 0 := (Bc.zero D).mono (Nat.zero_le _)
    refine ⟨D, d0, fun j hj => ?_⟩
    rcases Nat.lt_or_ge j n with a | a
    · rw [ga_A h hk a]
      have e : at0 (A.getD k []) j = (A.getD k [])[j]'(by rw [h.ak hk]; exact a) := getD_memS _
      rw [e]
      exact d2 _ (List.getElem_mem _)
    · rcases Nat.eq_or_lt_of_le a with a | a
      · rw [← a, ga_b h hk]; exact d3
      · obtain ⟨o, rfl⟩ : ∃ o, j = n + 1 + o := ⟨j - (n + 1), by omega⟩
        rcases Nat.lt_or_ge o A.length with q | q
        · rw [ga_u h hk q]
          split
          · exact one
          · exact zero
        · rw [show o = A.length by omega, ga_z h hk]
          exact zero
structure SyD (A : List (List Rat)) : Prop where
  al : ∀ r ∈ A, r.length = colC A
  bd : ∀ r ∈ A, ABd 12 r
  m4 : A.length ≤ 4
  n4 : colC A ≤ 4
theorem okMs (k : Nat) (A : List (List Rat)) : (A.map yRs).all (okY (k + 2)) = true := by
  rw [List.all_eq_true]
  intro y hy
  obtain ⟨r, _, rfl⟩ := List.mem_map.mp hy
  show (r.map yR).all (okY (k + 1)) = true
  exact okRs k r
end
section
theorem col_bd {k : Nat} {A : List (List Rat)} (h : ∀ r ∈ A, r.length = colC A) (hb : ∀ r ∈ A, ABd k r) {j : Nat} (hj : j < colC A) : ABd k (A.map fun r => r.getD j 0) := fun x hx => by
  obtain ⟨r, hr, rfl⟩ := List.mem_map.mp hx
  have e : r.getD j 0 = r[j]'(by rw [h r hr]; exact hj) := getD_memS _
  rw [e]
  exact hb r hr _ (List.getElem_mem _)
end
section
theorem eqv_Rs : ∀ xs ys : List Rat, PyData.eqvAll (pdYs (xs.map yR)) (pdYs (ys.map yR)) = decide (xs = ys)
  | [], [] => rfl
  | [], _ :: _ => rfl
  | _ :: _, [] => rfl
  | a :: xs, b :: ys => by
    have e := eqY_R a b
    unfold eqY at e
    simp only [List.map_cons, pdYs, PyData.eqvAll, eqv_Rs xs ys, List.cons.injEq, Bool.decide_and]
    rw [e]
theorem eqY_Rs (xs ys : List Rat) : eqY (yRs xs) (yRs ys) = decide (xs = ys) := eqv_Rs xs ys
def isSolB (A : List (List Rat)) (b x : List Rat) : Bool := decide (x.length = colC A) && (A.zip b).all fun p => decide (dotR p.1 x = p.2)
def isConB (A : List (List Rat)) (b fs : List Rat) : Bool := decide (fs.length = A.length) && ((List.range (colC A)).all (fun j => decide (dotR (A.map fun r => r.getD j 0) fs = 0)) && !decide (dotR b fs = 0))
def PIsSol (f : FD) : Prop := ∀ {A : List (List Rat)} {b x : List Rat} {k l : Nat}, (∀ r ∈ A, ABd k r) → ABd l x → (∀ r ∈ A, (min r.length x.length + 1) * (k + l + 1) < 8990) → A.length ≤ 10000 → VP f [yMs A, yRs b, yRs x] (.bl (isSolB A b x))
theorem pissol_ok {cc dt : FD} (h1 : PColC cc) (h2 : Dot dt) : PIsSol (P_is_solution cc dt) := fun {A b x k l} hA hx hsz hm => by
  have hszl : szl = 16777216 := rfl
  have e1 : (x.map yR).length = x.length := List.length_map ..
  refine vp_run ?_
  walk_at "v0"
  walk_at "v"
  refine vc_p (h1 A) ?_
  walk_at "v"
  · rename_i w
    rw [e1] at w
    have w : x.length = colC A := by omega
    refine vE_Lc false (vi_zip ?_)
    walk_at "v"
    refine ⟨_, _, _, _, .lst _, .lst _, ?_⟩
    rw [zipW_map]
    refine lc_map (f := fun p => .bl (decide (dotR p.1 x = p.2))) (by rw [List.length_zip]; omega) (fun p hp => ?_) ?_
    · have hp' := List.of_mem_zip (show (p.1, p.2) ∈ A.zip b from hp)
      refine ⟨_, tg_t rfl, ?_⟩
      dsimp only [wipeY, List.set, setY]
      walk_at "v"
      refine vc_p (h2 (hA _ hp'.1) hx (hsz _ hp'.1)) ?_
      walk_at "v"
      exact ⟨rfl, rfl⟩
    refine NL.fz ?_
    rw [show ((A.zip b).map fun p => Y.bl (decide (dotR p.1 x = p.2))) = ((A.zip b).map fun p => decide (dotR p.1 x = p.2)).map .bl by rw [List.map_map]; rfl]
    walk_at "v"
    refine f_all (.lst _) ?_
    walk_at "v"
    unfold isSolB
    rw [decide_eq_true w, Bool.true_and, List.all_map]
    rfl
  · rename_i w
    rw [e1] at w
    unfold isSolB
    rw [decide_eq_false (by omega)]
    rfl
def PIsCon (f : FD) : Prop := ∀ {A : List (List Rat)} {b fs : List Rat} {k l : Nat}, (∀ r ∈ A, r.length = colC A) → (∀ r ∈ A, ABd k r) → ABd k b → ABd l fs → (min A.length fs.length + 1) * (k + l + 1) < 8990 → (min b.length fs.length + 1) * (k + l + 1) < 8990 → A.length ≤ 10000 → colC A ≤ 10000 → VP f [yMs A, yRs b, yRs fs] (.bl (isConB A b fs))
theorem piscon_ok {cc dt sg : FD} (h1 : PColC cc) (h2 : Dot dt) (h3 : Sign sg) : PIsCon (P_is_contradiction cc dt sg) := fun {A b fs k l} hal hA hb hf hs1 hs2 hm hn => by
  have hszl : szl = 16777216 := rfl
  have e1 : (fs.map yR).length = fs.length := List.length_map ..
  have e2 : (A.map yRs).length = A.length := List.length_map ..
  refine vp_run ?_
  walk_at "v0"
  walk_at "v"
  · rename_i w
    have w : fs.length = A.length := by omega
    refine vs_for (vi_range1 ?_)
    walk_at "v"
    refine vc_p (h1 A) ?_
    refine ⟨_, rfl, ⟨by omega, by omega⟩, ?_⟩
    rw [Int.toNat_natCast]
    have bdot : ∀ xs : List Rat, ABd k xs → xs.length = A.length → Bd 8990 (dotR xs fs) := fun xs hx hl => by
      have d1 := dotR_bd hx hf
      have q : (min A.length fs.length + 1) * (k + l + 1) = min xs.length fs.length * (k + l + 1) + (k + l + 1) := by rw [hl, Nat.succ_mul]
      exact d1.mono (by omega)
    refine for_rng (fun t E o => o = [] ∧ (∀ j, j < t → dotR (A.map fun r => r.getD j 0) fs = 0) ∧ ∃ a, E = [some (yMs A), some (yRs b), some (yRs fs), a, none]) ⟨rfl, fun j h => absurd h (Nat.not_lt_zero _), _, rfl⟩ (fun t E o ht ⟨eo, hz, a, eE⟩ => ?_) (fun E o ⟨eo, hz, a, eE⟩ => ?_)
    · subst eo; subst eE
      refine ⟨_, tg_n, ?_⟩
      rw [Int.zero_add]
      dsimp only [List.set]
      have hcb := col_bd hal hA ht
      have hcd := bdot _ hcb (List.length_map ..)
      walk_at "v"
      refine vE_Lc false (vi_seq ?_)
      walk_at "v"
      refine ⟨_, _, .lst _, ?_⟩
      refine lc_map (xs := A) (enc := yRs) (f := fun r => yR (r.getD t 0)) (by omega) (fun r hr => ⟨_, tg_n, ?_⟩) ?_
      · dsimp only [wipeY, List.set]
        walk_at "v"
        refine x_lst (.lst _) (atI_nat (mapR_at (xs := r) (i := t) (by rw [hal r hr]; exact ht))) ?_
        exact ⟨rfl, rfl⟩
      refine NL.fz ?_
      rw [show (A.map fun r => yR (r.getD t 0)) = (A.map fun r => r.getD t 0).map yR by rw [List.map_map]; rfl]
      walk_at "v"
      refine vc_p (h2 hcb hf (by rw [List.length_map]; exact hs1)) ?_
      walk_at "v"
      · rename_i z
        refine ⟨rfl, fun j hj => ?_, _, rfl⟩
        by_cases e : j = t
        · rw [e]; exact Classical.byContradiction fun q => cmpR_ne0.mpr q z
        · exact hz j (by omega)
      · rename_i z
        unfold isConB
        rw [range_no ht (decide_eq_false (cmpR_ne0.mp z)), Bool.false_and, Bool.and_false]
    · subst eo; subst eE
      have d2 : Bd 8990 (dotR b fs) := by
        have d1 := dotR_bd hb hf
        rw [Nat.succ_mul] at hs2
        exact d1.mono (by omega)
      walk_at "v"
      refine vc_p (h2 hb hf hs2) ?_
      walk_at "v"
      unfold isConB
      rw [decide_eq_true w, range_all fun t ht => decide_eq_true (hz t ht), Bool.true_and, Bool.true_and]
      by_cases z : dotR b fs = 0
      · rw [decide_eq_true z, decide_eq_true (Classical.byContradiction fun q => cmpR_ne0.mp q z)]
      · rw [decide_eq_false z, decide_eq_false (cmpR_ne0.mpr z)]
  · rename_i w
    unfold isConB
    rw [decide_eq_false (by omega)]
    rfl
end
section
theorem law_of {f : FD} {ns : List Int} (p : VF f [.frz (ns.map .int)] [] (fun y _ => y = .bl true) noq) : ∃ h, f [.ref 0] [.frz (ns.map .int)] = .ok (.bl true) h := by
  have s : Sat (fun n => if n = 0 then some (.frz (ns.map .int)) else none) [] [O.frz (ns.map .int)] := ⟨fun n x e => by
      by_cases z : n = 0
      · subst z; simp only [if_pos] at e; cases e; rfl
      · simp only [if_neg z] at e; exact absurd e (by simp), fun p hp => (by cases hp), List.nodup_nil⟩
  have q := p _ [.ref 0] _ (.cons (.frz (n := 0) (if_pos rfl) (RYs.ints ns)) .nil) s
  cases z : f [.ref 0] [.frz (ns.map .int)] with
  | stuck => rw [z] at q; exact q.elim
  | exc x h => rw [z] at q; obtain ⟨_, _, _, _, _, _, w⟩ := q; exact w.elim
  | ok d h =>
    rw [z] at q
    obtain ⟨_, _, _, _, _, r, e⟩ := q
    subst e
    cases r
    exact ⟨h, rfl⟩
theorem bits_of {z : Int} (h : Builtin.Int.intBits z ≤ 1048576) : z.natAbs < 2 ^ 1048577 := by
  unfold Builtin.Int.intBits at h
  by_cases z0 : z.natAbs = 0
  · rw [z0]; exact Nat.two_pow_pos _
  · refine (Nat.log2_lt z0).mp ?_
    split at h
    · rename_i q; simp_all
    · omega
end
section
noncomputable def P_X__law_kind (t_isi : Nat → Nat → Option Bool) : Xc → Hh → R D := fun y h => endD ((sSq (sIf (tAnd (tE (isX t_isi y 4)) (tNot (tE (isX t_isi y 9)))) (sRt (dC (.str "invalid"))) sNx)
    (sSq (sIf (tAnd (tE (isX t_isi y 9)) (tNot (tE (isX t_isi y 4)))) (sRt (dC (.str "large"))) sNx)
    (sRt (dC (.str "other"))))) (List.replicate 1 none) h)
noncomputable def P__law_sums (c__law_dot : FD) : FD := fnRun (sSq (sAs (dC (.int 0)) (ofG (gN 2)))
    (sSq (sIf (tB (dCmp .NotEq (dV 0) (dLst aN))) (sAs (dCall fLen (aC (dIx (dV 0) (dC (.int 0))) aN) []) (ofG (gN 2))) sNx)
    (sRt (dLc (iRange1 (dV 2)) (gN 3) tY (dCall c__law_dot (aC (dLc (iSeq (dV 0)) (gN 4) tY (dIx (dV 4) (dV 3)) [4]) (aC (dV 1) aN)) []) [3])))) 5
noncomputable def P__law_solved (t_sub : Nat → Nat → Option Bool) (c_solve : FD) (x__law_kind : Xc → Hh → R D) : FD := fnRun (sSq (sTry t_sub (sEx (dCall c_solve (aC (dV 0) (aC (dV 1) aN)) [])) ⟨0, (some 2), fun y => sRt (fun _ h => x__law_kind y h)⟩)
    (sRt (dC (.str "fine")))) 3
noncomputable def P__law_ranked (t_sub : Nat → Nat → Option Bool) (c_rank : FD) (x__law_kind : Xc → Hh → R D) : FD := fnRun (sSq (sTry t_sub (sEx (dCall c_rank (aC (dV 0) aN) [])) ⟨0, (some 1), fun y => sRt (fun _ h => x__law_kind y h)⟩)
    (sRt (dC (.str "fine")))) 2
noncomputable def P_law_48 (c__law_deck : FD) (c__law_dot : FD) (c__law_draw : FD) (c__law_ranked : FD) (c__law_same : FD) (c__law_small : FD) (c__law_solved : FD) (c__law_sums : FD) (c__law_system : FD) (c__law_times : FD) (c_is_contradiction : FD) (c_is_solution : FD) : FD := fnRun (sSq (sAs (dCall c__law_deck (aC (dV 0) aN) []) (ofG (gN 1)))
    (sSq (sAs (dCall c__law_system (aC (dV 1) aN) []) (ofG (gN 2)))
    (sSq (sAs (dC (.int 0)) (ofG (gN 3)))
    (sSq (sIf (tB (dCmp .NotEq (dV 2) (dLst aN))) (sAs (dCall fLen (aC (dIx (dV 2) (dC (.int 0))) aN) []) (ofG (gN 3))) sNx)
    (sSq (sAs (dLc (iRange1 (dV 3)) (gN 14) tY (dCall c__law_small (aC (dV 1) aN) []) [14]) (ofG (gN 4)))
    (sSq (sAs (dLc (iSeq (dV 2)) (gN 15) tY (dCall c__law_dot (aC (dV 15) (aC (dV 4) aN)) []) [15]) (ofG (gN 5)))
    (sSq (sIf (tAnd (tB (dCmp .NotEq (dV 5) (dLst aN))) (tB (dCmp .Eq (dCall c__law_draw (aC (dV 1) (aC (dC (.int 2)) aN)) []) (dC (.int 0))))) (sAs (dCall c__law_small (aC (dV 1) aN) []) (gIx (dV 5) (dCall c__law_draw (aC (dV 1) (aC (dCall fLen (aC (dV 5) aN) []) aN)) []))) sNx)
    (sSq (sAs (dLc (iSeq (dV 2)) (gN 15) tY (dCall c__law_small (aC (dV 1) aN) []) [15]) (ofG (gN 6)))
    (sSq (sIf (tAnd (tB (dCmp .Gt (dCall fLen (aC (dV 2) aN) []) (dC (.int 1)))) (tB (dCmp .Eq (dCall c__law_draw (aC (dV 1) (aC (dC (.int 2)) aN)) []) (dC (.int 0))))) (sSq (sAs (dLc (iSeq (dIx (dV 2) (dC (.int 0)))) (gN 16) tY (dCall c__law_times (aC (dTup (aC (dC (.int 2)) (aC (dC (.int 1)) aN))) (aC (dV 16) aN)) []) [16]) (gIx (dV 2) (dC (.int 1))))
    (sAs (dB .Add (dLst (aC (dTup (aC (dU .USub (dC (.int 2))) (aC (dC (.int 1)) aN))) (aC (dTup (aC (dC (.int 1)) (aC (dC (.int 1)) aN))) aN))) (dLc (iSeq (dSl (dV 2) (oS (dC (.int 2))) oN)) (gN 15) tY (dTup (aC (dC (.int 0)) (aC (dC (.int 1)) aN))) [15])) (ofG (gN 6)))) sNx)
    (sSq (sFor (iSeq (dLst (aC (dV 4) (aC (dB .Add (dV 4) (dLst (aC (dTup (aC (dC (.int 0)) (aC (dC (.int 1)) aN))) aN))) (aC (dSl (dV 4) (oS (dC (.int 1))) oN) (aC (dLc (iRange1 (dV 3)) (gN 14) tY (dCall c__law_small (aC (dV 1) aN) []) [14]) aN)))))) (gN 7) (sSq (sAs (dAndT (dCmp .Eq (dCall fLen (aC (dV 7) aN) []) (dV 3)) (dCmp .Eq (dLc (iSeq (dV 2)) (gN 15) tY (dCall c__law_dot (aC (dV 15) (aC (dV 7) aN)) []) [15]) (dV 5))) (ofG (gN 8)))
    (sIf (tNot (tE (dCall c__law_same (aC (dCall c_is_solution (aC (dV 2) (aC (dV 5) (aC (dV 7) aN))) []) (aC (dV 8) aN)) []))) (sRt (dC (.bl false))) sNx)))
    (sSq (sFor (iSeq (dLst (aC (dV 6) (aC (dB .Add (dV 6) (dLst (aC (dTup (aC (dC (.int 1)) (aC (dC (.int 1)) aN))) aN))) (aC (dSl (dV 6) (oS (dC (.int 1))) oN) (aC (dLc (iSeq (dV 2)) (gN 15) tY (dCall c__law_small (aC (dV 1) aN) []) [15]) aN)))))) (gN 7) (sSq (sAs (dAndT (dCmp .Eq (dCall fLen (aC (dV 7) aN) []) (dCall fLen (aC (dV 2) aN) [])) (dCmp .Eq (dLc (iSeq (dCall c__law_sums (aC (dV 2) (aC (dV 7) aN)) [])) (gN 16) (tB (dCmp .NotEq (dIx (dV 16) (dC (.int 0))) (dC (.int 0)))) (dV 16) [16]) (dLst aN))) (ofG (gN 8)))
    (sSq (sAs (dAndT (dV 8) (dCmp .NotEq (dIx (dCall c__law_dot (aC (dV 5) (aC (dV 7) aN)) []) (dC (.int 0))) (dC (.int 0)))) (ofG (gN 8)))
    (sIf (tNot (tE (dCall c__law_same (aC (dCall c_is_contradiction (aC (dV 2) (aC (dV 5) (aC (dV 7) aN))) []) (aC (dV 8) aN)) []))) (sRt (dC (.bl false))) sNx))))
    (sSq (sAs (dLst (aC (dLc (iRange1 (dC (.int 73))) (gN 17) tY (dTup (aC (dV 17) (aC (dC (.int 1)) aN))) [17]) aN)) (ofG (gN 9)))
    (sSq (sAs (dLc (iRange1 (dC (.int 73))) (gN 17) tY (dLst (aC (dTup (aC (dV 17) (aC (dC (.int 1)) aN))) aN)) [17]) (ofG (gN 10)))
    (sSq (sAs (dB .Add (dV 2) (dLst (aC (dLc (iRange1 (dB .Add (dV 3) (dC (.int 1)))) (gN 17) tY (dTup (aC (dC (.int 1)) (aC (dC (.int 1)) aN))) [17]) (aC (dLc (iRange1 (dV 3)) (gN 17) tY (dTup (aC (dC (.int 1)) (aC (dC (.int 1)) aN))) [17]) aN)))) (ofG (gN 11)))
    (sSq (sAs (dLst (aC (dTup (aC (dV 11) (aC (dB .Add (dV 5) (dLst (aC (dTup (aC (dC (.int 0)) (aC (dC (.int 1)) aN))) (aC (dTup (aC (dC (.int 0)) (aC (dC (.int 1)) aN))) aN)))) (aC (dC (.str "invalid")) aN)))) (aC (dTup (aC (dV 2) (aC (dB .Add (dV 5) (dLst (aC (dTup (aC (dC (.int 0)) (aC (dC (.int 1)) aN))) aN))) (aC (dC (.str "invalid")) aN)))) (aC (dTup (aC (dV 9) (aC (dLst (aC (dTup (aC (dC (.int 1)) (aC (dC (.int 1)) aN))) aN)) (aC (dC (.str "large")) aN)))) (aC (dTup (aC (dV 10) (aC (dLc (iRange1 (dC (.int 73))) (gN 17) tY (dTup (aC (dC (.int 1)) (aC (dC (.int 1)) aN))) [17]) (aC (dC (.str "large")) aN)))) (aC (dTup (aC (dV 10) (aC (dLst (aC (dTup (aC (dC (.int 1)) (aC (dC (.int 1)) aN))) aN)) (aC (dC (.str "invalid")) aN)))) (aC (dTup (aC (dV 9) (aC (dLst aN) (aC (dC (.str "invalid")) aN)))) (aC (dTup (aC (dLc (iSeq (dV 9)) (gN 15) tY (dSl (dV 15) oN (oS (dC (.int 72)))) [15]) (aC (dLst (aC (dTup (aC (dC (.int 1)) (aC (dC (.int 1)) aN))) aN)) (aC (dC (.str "fine")) aN)))) (aC (dTup (aC (dB .Add (dLst (aC (dLst (aC (dTup (aC (dC (.int 1)) (aC (dC (.int 1)) aN))) aN)) (aC (dLst aN) aN))) (dV 10)) (aC (dLc (iRange1 (dC (.int 75))) (gN 17) tY (dTup (aC (dC (.int 1)) (aC (dC (.int 1)) aN))) [17]) (aC (dC (.str "invalid")) aN)))) aN))))))))) (ofG (gN 12)))
    (sSq (sFor (iSeq (dV 12)) (gN 13) (sIf (tB (dCmp .NotEq (dCall c__law_solved (aC (dIx (dV 13) (dC (.int 0))) (aC (dIx (dV 13) (dC (.int 1))) aN)) []) (dIx (dV 13) (dC (.int 2))))) (sRt (dC (.bl false))) sNx))
    (sRt (dAndT (dCmp .Eq (dCall c__law_ranked (aC (dV 11) aN) []) (dC (.str "invalid"))) (dAndT (dCmp .Eq (dCall c__law_ranked (aC (dV 9) aN) []) (dC (.str "large"))) (dCmp .Eq (dCall c__law_ranked (aC (dV 10) aN) []) (dC (.str "large")))))))))))))))))))))) 18
def Irr (A : List (List Rat)) : Prop := ∃ r ∈ A, r.length ≠ colC A
abbrev XI (w : Str) : Xy := ⟨4, [(69, .str w)]⟩
abbrev XL : Xy := ⟨9, [(48, .str "system")]⟩
def XR (A : List (List Rat)) (x : Xy) : Prop := ((∃ w, x = XI w) ∧ Irr A) ∨ (x = XL ∧ ¬ Irr A)
def XSy (A : List (List Rat)) (b : List Rat) (x : Xy) : Prop := ((∃ w, x = XI w) ∧ (Irr A ∨ b.length ≠ A.length)) ∨ (x = XL ∧ ¬ Irr A ∧ b.length = A.length)
abbrev Lrg (A : List (List Rat)) : Prop := 72 < A.length ∨ 72 < colC A
theorem noIrr {A : List (List Rat)} (h : ∀ i (h : i < A.length), A[i].length = colC A) : ¬ Irr A := fun ⟨r, hm, hn⟩ => by
  obtain ⟨i, hi, e⟩ := List.getElem_of_mem hm
  exact hn (by rw [← e]; exact h i hi)
def PChkRB (f : FD) : Prop := ∀ A : List (List Rat), (Irr A ∨ Lrg A) → VF f [yMs A] [] (fun _ _ => False) (fun x o => o = [] ∧ XR A x)
theorem pchkrb_ok {cc : FD} (h1 : PColC cc) : PChkRB (P_check_rows_2 cc) := fun A hA => by
  have e0 : (A.map yRs).length = A.length := List.length_map ..
  refine vf_run ?_
  walk_at "v0"
  walk_at "v"
  refine vc_p (h1 A) ?_
  walk_at "v"
  refine vs_for (vi_seq ?_)
  walk_at "v"
  refine ⟨_, _, .lst _, ?_⟩
  refine for_mapI (fun t E o => o = [] ∧ (∀ i (h : i < A.length), i < t → A[i].length = colC A) ∧ ∃ w, E = [some (yMs A), some (.int (colC A : Nat)), w]) ⟨rfl, fun i _ h => absurd h (Nat.not_lt_zero _), _, rfl⟩ (fun t ht E o ⟨eo, hq, w, eE⟩ => ?_) (fun E o ⟨eo, hq, w, eE⟩ => ?_)
  · subst eo; subst eE
    have e1 : ((A[t]).map yR).length = (A[t]).length := List.length_map ..
    refine ⟨_, tg_n, ?_⟩
    walk_at "set"
    walk_at "v"
    · rename_i z
      have z : A[t].length = colC A := by rw [← e1]; exact Int.ofNat.inj z
      refine ⟨rfl, fun i h hi => ?_, _, rfl⟩
      by_cases e : i = t
      · subst e; exact z
      · exact hq i h (by omega)
    · rename_i z
      have z : A[t].length ≠ colC A := fun w => z (by rw [e1, w])
      exact ⟨rfl, retx (.refl _) ⟨rfl, .inl ⟨⟨_, rfl⟩, A[t], List.getElem_mem ht, z⟩⟩⟩
  · subst eo; subst eE
    have hn := noIrr fun i h => hq i h h
    have hL := hA.resolve_left hn
    walk_at "v"
    · exact ⟨rfl, retx (.refl _) ⟨rfl, .inr ⟨rfl, hn⟩⟩⟩
    · exact ⟨rfl, retx (.refl _) ⟨rfl, .inr ⟨rfl, hn⟩⟩⟩
    · rename_i z1 z2
      rw [e0] at z1
      exfalso
      rcases hL with h | h <;> omega
def PChkSB (f : FD) : Prop := ∀ (A : List (List Rat)) (b : List Rat), (Irr A ∨ b.length ≠ A.length ∨ Lrg A) → VF f [yMs A, yRs b] [] (fun _ _ => False) (fun x o => o = [] ∧ XSy A b x)
theorem pchksb_ok {k cc : FD} (hk : PChkRB k) (h1 : PColC cc) : PChkSB (P_check_system_2 k cc) := fun A b hA => by
  have e0 : (A.map yRs).length = A.length := List.length_map ..
  have e2 : (b.map yR).length = b.length := List.length_map ..
  refine vf_run ?_
  walk_at "v0"
  walk_at "v"
  refine vc_p (h1 A) ?_
  walk_at "v"
  refine vs_for (vi_seq ?_)
  walk_at "v"
  refine ⟨_, _, .lst _, ?_⟩
  refine for_mapI (fun t E o => o = [] ∧ (∀ i (h : i < A.length), i < t → A[i].length = colC A) ∧ ∃ w, E = [some (yMs A), some (yRs b), some (.int (colC A : Nat)), w]) ⟨rfl, fun i _ h => absurd h (Nat.not_lt_zero _), _, rfl⟩ (fun t ht E o ⟨eo, hq, w, eE⟩ => ?_) (fun E o ⟨eo, hq, w, eE⟩ => ?_)
  · subst eo; subst eE
    have e1 : ((A[t]).map yR).length = (A[t]).length := List.length_map ..
    refine ⟨_, tg_n, ?_⟩
    walk_at "set"
    walk_at "v"
    · rename_i z
      have z : A[t].length = colC A := by rw [← e1]; exact Int.ofNat.inj z
      refine ⟨rfl, fun i h hi => ?_, _, rfl⟩
      by_cases e : i = t
      · subst e; exact z
      · exact hq i h (by omega)
    · rename_i z
      have z : A[t].length ≠ colC A := fun w => z (by rw [e1, w])
      exact ⟨rfl, retx (.refl _) ⟨rfl, .inl ⟨⟨_, rfl⟩, .inl ⟨A[t], List.getElem_mem ht, z⟩⟩⟩⟩
  · subst eo; subst eE
    have hn := noIrr fun i h => hq i h h
    have hL := hA.resolve_left hn
    walk_at "v"
    · rename_i z
      have z : b.length = A.length := by rw [← e0, ← e2]; exact Int.ofNat.inj z
      refine vc_fr (hk A (.inr (hL.resolve_left fun w => w z))) (fun y o w => w.elim) (fun x o ⟨eo, hx⟩ => ?_)
      subst eo
      refine retx (.refl _) ⟨rfl, ?_⟩
      rcases hx with ⟨w1, w2⟩ | ⟨w1, w2⟩
      · exact absurd w2 hn
      · exact .inr ⟨w1, hn, z⟩
    · rename_i z
      have z : b.length ≠ A.length := fun w => z (by rw [e0, e2, w])
      exact ⟨rfl, retx (.refl _) ⟨rfl, .inl ⟨⟨_, rfl⟩, .inr z⟩⟩⟩
def PSolB (f : FD) : Prop := ∀ (A : List (List Rat)) (b : List Rat), (Irr A ∨ b.length ≠ A.length ∨ Lrg A) → VF f [yMs A, yRs b] [] (fun _ _ => False) (fun x o => o = [] ∧ XSy A b x)
theorem psolb_ok {ck cc el sg un : FD} (h1 : PChkSB ck) : PSolB (P_solve ck cc el sg un) := fun A b hA => by
  refine vf_run ?_
  walk_at "v0"
  walk_at "v"
  refine vc_fr (h1 A b hA) (fun y o z => z.elim) (fun x o ⟨eo, hx⟩ => ?_)
  subst eo
  exact retx (.refl _) ⟨rfl, hx⟩
def PRankB (f : FD) : Prop := ∀ A : List (List Rat), (Irr A ∨ Lrg A) → VF f [yMs A] [] (fun _ _ => False) (fun x o => o = [] ∧ XR A x)
theorem prankb_ok {ck cc el : FD} (h1 : PChkRB ck) : PRankB (P_rank ck cc el) := fun A hA => by
  refine vf_run ?_
  walk_at "v0"
  walk_at "v"
  refine vc_fr (h1 A hA) (fun y o z => z.elim) (fun x o ⟨eo, hx⟩ => ?_)
  subst eo
  exact retx (.refl _) ⟨rfl, hx⟩
def LKind (ti : Nat → Nat → Option Bool) (g : Xc → Hh → R D) : Prop := ti 4 4 = some true → ti 4 9 = some false → ti 9 9 = some true → ti 9 4 = some false → ∀ fs h, g ⟨4, fs⟩ h = .ok (.str "invalid") h ∧ g ⟨9, fs⟩ h = .ok (.str "large") h
theorem lkind_ok {ti : Nat → Nat → Option Bool} : LKind ti (P_X__law_kind ti) := fun a b c d fs h => by
  constructor
  · unfold P_X__law_kind
    simp only [isX, a, b]
    rfl
  · unfold P_X__law_kind
    simp only [isX, c, d]
    rfl
theorem vE_okS {g : Hh → R D} {w : Str} {E : Ey} {o : OC} {Q : Y → OC → Prop} {X : XQ} (hg : ∀ h, g h = .ok (.str w) h) (q : Q (.str w) o) : VE (fun _ h => g h) E o Q X := fun v e h re sa => by
  show PR RY v o h (g h) Q X
  rw [hg]
  exact PR.ok sa (.str _) q
abbrev TiS (ti : Nat → Nat → Option Bool) : Prop := ti 4 4 = some true ∧ ti 4 9 = some false ∧ ti 9 9 = some true ∧ ti 9 4 = some false
def LSlv (ts ti : Nat → Nat → Option Bool) (f : FD) : Prop := ts 4 0 = some true → ts 9 0 = some true → TiS ti → (∀ (A : List (List Rat)) (b : List Rat), (Irr A ∨ b.length ≠ A.length) → VP f [yMs A, yRs b] (.str "invalid")) ∧ (∀ (A : List (List Rat)) (b : List Rat), ¬ Irr A → b.length = A.length → Lrg A → VP f [yMs A, yRs b] (.str "large")) ∧
  ∀ (A : List (List Rat)) (b : List Rat) (K : Nat), SyOk A b (colC A) → SySz K A b (colC A) → A.length ≤ 72 → colC A ≤ 72 → K < 1400 → VP f [yMs A, yRs b] (.str "fine")
theorem lslv_ok {ts ti : Nat → Nat → Option Bool} {so : FD} {g : Xc → Hh → R D} (h1 : PSolB so) (h2 : PSolveS so) (h3 : LKind ti g) : LSlv ts ti (P__law_solved ts so g) := fun s4 s9 tt => by
  have hk := h3 tt.1 tt.2.1 tt.2.2.1 tt.2.2.2
  refine ⟨fun A b hi => ?_, fun A b hn hl hL => ?_, fun A b K a1 a2 a3 a4 a5 => ?_⟩
  · refine vp_run ?_
    walk_at "v0"
    refine vs_sq (vs_try1 ?_)
    walk_at "v"
    refine vc_fr (h1 A b (hi.elim .inl fun z => .inr (.inl z))) (fun y o z => z.elim) (fun x o ⟨eo, hx⟩ => ?_)
    subst eo
    rcases hx with ⟨⟨w, e⟩, _⟩ | ⟨e, z1, z2⟩
    · subst e
      refine tw_inF s4 rfl (ds := [(69, .str w)]) rfl ?_
      dsimp only
      refine vs_rt (vE_okS (fun h => (hk _ h).1) ?_)
      walk_at "v"
    · exact (hi.elim z1 fun z => z z2).elim
  · refine vp_run ?_
    walk_at "v0"
    refine vs_sq (vs_try1 ?_)
    walk_at "v"
    refine vc_fr (h1 A b (.inr (.inr hL))) (fun y o z => z.elim) (fun x o ⟨eo, hx⟩ => ?_)
    subst eo
    rcases hx with ⟨_, z⟩ | ⟨e, _⟩
    · exact (z.elim hn fun w => w hl).elim
    · subst e
      refine tw_inF s9 rfl (ds := [(48, .str "system")]) rfl ?_
      dsimp only
      refine vs_rt (vE_okS (fun h => (hk _ h).2) ?_)
      walk_at "v"
  · refine vp_run ?_
    walk_at "v0"
    refine vs_sq (vs_try1 ?_)
    walk_at "v"
    refine vc_p (h2 a1 a2 a3 a4 a5) ?_
    walk_at "v"
def LRnk (ts ti : Nat → Nat → Option Bool) (f : FD) : Prop := ts 4 0 = some true → ts 9 0 = some true → TiS ti → (∀ A : List (List Rat), Irr A → VP f [yMs A] (.str "invalid")) ∧ ∀ A : List (List Rat), ¬ Irr A → Lrg A → VP f [yMs A] (.str "large")
theorem lrnk_ok {ts ti : Nat → Nat → Option Bool} {so : FD} {g : Xc → Hh → R D} (h1 : PRankB so) (h3 : LKind ti g) : LRnk ts ti (P__law_ranked ts so g) := fun s4 s9 tt => by
  have hk := h3 tt.1 tt.2.1 tt.2.2.1 tt.2.2.2
  refine ⟨fun A hi => ?_, fun A hn hL => ?_⟩
  · refine vp_run ?_
    walk_at "v0"
    refine vs_sq (vs_try1 ?_)
    walk_at "v"
    refine vc_fr (h1 A (.inl hi)) (fun y o z => z.elim) (fun x o ⟨eo, hx⟩ => ?_)
    subst eo
    rcases hx with ⟨⟨w, e⟩, _⟩ | ⟨e, z1⟩
    · subst e
      refine tw_inF s4 rfl (ds := [(69, .str w)]) rfl ?_
      dsimp only
      refine vs_rt (vE_okS (fun h => (hk _ h).1) ?_)
      walk_at "v"
    · exact (z1 hi).elim
  · refine vp_run ?_
    walk_at "v0"
    refine vs_sq (vs_try1 ?_)
    walk_at "v"
    refine vc_fr (h1 A (.inr hL)) (fun y o z => z.elim) (fun x o ⟨eo, hx⟩ => ?_)
    subst eo
    rcases hx with ⟨_, z⟩ | ⟨e, _⟩
    · exact (hn z).elim
    · subst e
      refine tw_inF s9 rfl (ds := [(48, .str "system")]) rfl ?_
      dsimp only
      refine vs_rt (vE_okS (fun h => (hk _ h).2) ?_)
      walk_at "v"
def LSysO (f : FD) : Prop := ∀ (d : Nat) (c : C) (ns : List Int) (m : Nat), DK ns m c → m < 2 ^ 58 → VF f [.own d] [(d, c)] (fun y o => ∃ (A : List (List Rat)) (c' : C) (u : Nat), y = .own u ∧ SyD A ∧ o = [(u, .lst (A.map yRs)), (d, c')] ∧ DK ns (m + 200) c') noq
theorem lsysO_ok {dr sm ti : FD} (h1 : Draw dr) (h2 : LSmall sm) (h3 : LTimes ti) : LSysO (P__law_system dr sm ti) := fun d c ns m hk hm => by
  have hszl : szl = 16777216 := rfl
  refine vf_run ?_
  walk_at "v0"
  walk_at "v"
  refine draw_call h1 .here hk (by omega) (by decide) (by decide) fun r1 c1 r10 r11 k1 => ?_
  obtain ⟨n, rfl⟩ : ∃ n : Nat, r1 = n := ⟨r1.toNat, by omega⟩
  walk_at "vl"
  refine vE_Lst true ?_
  walk_at "v"
  rename_i u hu
  refine vs_for (vi_range1 ?_)
  walk_at "v"
  refine draw_call h1 (.there .here) k1 (by omega) (by decide) (by decide) fun r2 c2 r20 r21 k2 => ?_
  obtain ⟨q, rfl⟩ : ∃ q : Nat, r2 = q := ⟨r2.toNat, by omega⟩
  refine ⟨_, rfl, ⟨by omega, by omega⟩, ?_⟩
  rw [Int.toNat_natCast]
  refine for_rng (fun t E o => ∃ (A : List (List Rat)) (c3 : C), o = [(u, .lst (A.map yRs)), (d, c3)] ∧ A.length = t ∧ (∀ r ∈ A, r.length = n ∧ ABd (3 * t) r) ∧ DK ns (m + 2 + 30 * t) c3 ∧ ∃ a3 a4 a5 a6, E = [some (.own d), some (.int (n : Nat)), some (.own u), a3, a4, a5, a6, none, none]) ⟨[], c2, rfl, rfl, fun _ w => (by cases w), k2, _, _, _, _, rfl⟩ (fun t E o ht ⟨A, c3, eo, hA, hr, k3, a3, a4, a5, a6, eE⟩ => ?_) (fun E o ⟨A, c3, eo, hA, hr, k3, a3, a4, a5, a6, eE⟩ => ?_)
  · subst eo; subst eE
    refine ⟨_, tg_n, ?_⟩
    dsimp only [List.set]
    walk_at "v"
    refine vE_Lc false (vi_range1 ?_)
    walk_at "v"
    refine ⟨_, rfl, ⟨by omega, by omega⟩, ?_⟩
    have hlen : (rngY 0 ((n : Int)).toNat).length = n := by unfold rngY; simp
    refine lc_ix (fun i acc o => ∃ (qs : List Rat) (c' : C), acc = qs.map yR ∧ qs.length = i ∧ ABd 3 qs ∧ o = [(u, .lst (A.map yRs)), (d, c')] ∧ DK ns (m + 2 + 30 * t + 3 * i) c') (by rw [hlen]; omega) ⟨[], c3, rfl, rfl, fun _ w => (by cases w), rfl, k3⟩ (fun i h acc o _ ⟨qs, c4, ea, hlq, hb, eo, k4⟩ => ?_) (fun acc o ⟨qs, c4, ea, hlq, hb, eo, k4⟩ => ?_)
    · subst eo; subst ea
      rw [hlen] at h
      refine ⟨_, tg_n, ?_⟩
      dsimp only [wipeY, List.set]
      walk_at "v"
      refine lsmall_call h2 (.there .here) k4 (by omega) fun r c5 hr5 k5 => ?_
      refine ⟨qs ++ [r], c5, by rw [List.map_append]; rfl, by simp [hlq], fun x hx => ?_, rfl, k5.mono (by omega)⟩
      rcases List.mem_append.mp hx with hx | hx
      · exact hb x hx
      · rw [List.mem_singleton.mp hx]; exact hr5
    · subst eo; subst ea
      rw [hlen] at hlq k4
      refine NL.fz ?_
      walk_at "w"
      refine vs_cut (fun E o => ∃ (row : List Rat) (c5 : C) (a5 a6 : Option Y), row.length = n ∧ ABd (3 * (t + 1)) row ∧ DK ns (m + 2 + 30 * (t + 1)) c5 ∧ o = [(u, .lst (A.map yRs)), (d, c5)] ∧ E = [some (.own d), some (.int (n : Nat)), some (.own u), some (.int (0 + (t : Int))), some (yRs row), a5, a6, none, none]) ?_ (fun E o ⟨row, c5, a5, a6, hrl, hrb, k5, eo, eE⟩ => ?_)
      · walk_at "v"
        refine c_neL (.own .here) (.lst _) (okMs 9 A) (by rfl) ?_
        rw [eqY_nil]
        cases hA0 : A.isEmpty with
        | true =>
          walk_at "v"
          exact ⟨qs, c4, _, _, hlq, hb.mono (by omega), k4.mono (by omega), rfl, rfl⟩
        | false =>
          have hA1 : 0 < A.length := by
            cases A with
            | nil => cases hA0
            | cons a A => exact Nat.succ_pos _
          walk_at "v"
          refine draw_call h1 (.there .here) k4 (by omega) (by decide) (by decide) fun r5 c5 r50 r51 k5 => ?_
          walk_at "v"
          · rw [List.length_map]
            refine draw_call h1 (.there .here) k5 (by omega) (by omega) (by omega) fun r6 c6 r60 r61 k6 => ?_
            obtain ⟨e, rfl⟩ : ∃ e : Nat, r6 = e := ⟨r6.toNat, by omega⟩
            have he : e < A.length := by omega
            obtain ⟨w1, w2⟩ := hr _ (List.getElem_mem he)
            have ee : A.getD e [] = A[e] := getD_memS he
            rw [← ee] at w1 w2
            refine x_lst (.own .here) (atI_nat (rows_at he)) ?_
            walk_at "v"
            refine lsmall_call h2 (.there .here) k6 (by omega) fun r c7 hr7 k7 => ?_
            walk_at "v"
            refine vE_Lc false (vi_seq ?_)
            walk_at "v"
            refine ⟨_, _, .lst _, ?_⟩
            refine lc_map (xs := A.getD e []) (f := fun x => yR (r * x)) (by omega) (fun x hx => ⟨_, tg_n, ?_⟩) ?_
            · dsimp only [wipeY, List.set]
              have bx := w2 x hx
              walk_at "v"
              refine vc_p (h3 hr7 bx (by omega)) ?_
              exact ⟨rfl, rfl⟩
            refine NL.fz ?_
            rw [show ((A.getD e []).map fun x => yR (r * x)) = ((A.getD e []).map fun x => r * x).map yR by rw [List.map_map]; rfl]
            walk_at "v"
            refine ⟨(A.getD e []).map fun x => r * x, c7, _, _, by rw [List.length_map]; exact w1, fun x hx => ?_, k7.mono (by omega), rfl, rfl⟩
            obtain ⟨x0, h0, rfl⟩ := List.mem_map.mp hx
            exact (hr7.mul (w2 x0 h0)).mono (by omega)
          · exact ⟨qs, c5, _, _, hlq, hb.mono (by omega), k5.mono (by omega), rfl, rfl⟩
      · subst eo; subst eE
        walk_at "v"
        refine ⟨chk_L (.own .here), ?_⟩
        walk_at "v"
        refine m_append' .here (by rw [List.length_map]; omega) ?_
        refine ⟨A ++ [row], c5, by rw [map_snoc1], by rw [List.length_append, hA]; rfl, fun x hx => ?_, k5, _, _, _, _, rfl⟩
        rcases List.mem_append.mp hx with hx | hx
        · exact ⟨(hr x hx).1, (hr x hx).2.mono (by omega)⟩
        · rw [List.mem_singleton.mp hx]; exact ⟨hrl, hrb⟩
  · subst eo; subst eE
    walk_at "vt"
    refine ret_v (.refl _) ⟨A, c3, u, rfl, ?_, rfl, k3.mono (by omega)⟩
    have hal : ∀ r ∈ A, r.length = colC A ∧ colC A ≤ 4 := fun r hr0 => by
      cases A with
      | nil => cases hr0
      | cons a A =>
        have e := (hr a (List.mem_cons_self ..)).1
        have e2 := (hr r hr0).1
        show r.length = a.length ∧ a.length ≤ 4
        omega
    refine ⟨fun r hr0 => (hal r hr0).1, fun r hr0 => (hr r hr0).2.mono (by omega), by omega, ?_⟩
    cases A with
    | nil => exact Nat.zero_le _
    | cons a A => exact (hal a (List.mem_cons_self ..)).2
theorem lc_ixO {tg : Tg} {t : TD} {el : ED} {E0 : Ey} {ys : List Y} {ns : List Nat} {o o2 cs : OC} {F : List Y → OC → Prop} (r : Rms o ns o2 cs) (I : Nat → List Y → OC → Prop) (hl : ys.length ≤ szl) (i0 : I 0 [] o2)
    (st : ∀ i (h : i < ys.length) acc o, acc.length ≤ i → I i acc o → ∃ E1, TgY tg ys[i] E0 E1 ∧ VT t E1 o (fun k o1 => cnd k (VE el E1 o1 (fun z o2 => I (i + 1) (acc ++ [z]) o2) noq) (I (i + 1) acc o1)) noq)
    (en : ∀ acc o, I ys.length acc o → F acc (cs ++ o)) : LcG tg t el E0 ys ns o F :=
  ⟨o2, cs, fun pre acc o' => acc.length ≤ pre.length ∧ I pre.length acc o', r, ⟨Nat.le_refl _, i0⟩, fun pre y post acc o' e ⟨hc, i⟩ => by
    have h : pre.length < ys.length := by rw [e]; simp
    obtain ⟨E1, tt, b⟩ := st pre.length h acc o' hc i
    have ey : ys[pre.length] = y := by
      have : ys[pre.length]? = some y := by rw [e]; simp
      rw [List.getElem?_eq_getElem h] at this
      exact Option.some.inj this
    rw [ey] at tt
    refine ⟨E1, tt, fun v e h' re s => (b v e h' re s).mono (fun k o2 q => ?_) fun _ _ q => q⟩
    cases k with
    | true =>
      refine VE.mono q (fun z o3 q3 => ?_) fun _ _ q => q
      exact ⟨by omega, by rw [List.length_append, List.length_append]; simpa using hc, by rw [List.length_append]; exact q3⟩
    | false => exact ⟨by rw [List.length_append]; omega, by rw [List.length_append]; exact q⟩, fun acc o' ⟨_, i⟩ => en acc o' i⟩
theorem lc_mapO {α : Type} {tg : Tg} {el : ED} {xs : List α} {enc f : α → Y} {E0 : Ey} {ns : List Nat} {o o2 cs : OC} {F : List Y → OC → Prop} (r : Rms o ns o2 cs) (hl : xs.length ≤ szl)
    (st : ∀ x ∈ xs, ∃ E1, TgY tg (enc x) E0 E1 ∧ VE el E1 o2 (fun z o3 => z = f x ∧ o3 = o2) noq) (en : F (xs.map f) (cs ++ o2)) : LcG tg tY el E0 (xs.map enc) ns o F := by
  refine lc_ixO r (fun i acc o => acc = (xs.take i).map f ∧ o = o2) (by rw [List.length_map]; exact hl) ⟨rfl, rfl⟩ (fun i h acc o _ ⟨ea, eo⟩ => ?_) (fun acc o ⟨ea, eo⟩ => ?_)
  · subst ea; subst eo
    have h' : i < xs.length := by rw [List.length_map] at h; exact h
    obtain ⟨E1, t, b⟩ := st _ (List.getElem_mem h')
    rw [List.getElem_map]
    refine ⟨E1, t, vT_Y (b.mono (fun z o3 ⟨h1, h2⟩ => ?_) fun _ _ q => q)⟩
    subst h1; subst h2
    exact ⟨by rw [List.take_succ_eq_append_getElem h', List.map_append]; rfl, rfl⟩
  · subst ea; subst eo
    rw [List.length_map, List.take_length]
    exact en
theorem lc_rngY {E0 : Ey} {el : ED} {tg : Tg} {n : Nat} {f : Nat → Y} {o : OC} {F : List Y → OC → Prop} (hn : n ≤ 1000)
    (st : ∀ i, i < n → ∃ E1, TgY tg (.int (i : Nat)) E0 E1 ∧ VE el E1 o (fun z o2 => z = f i ∧ o2 = o) noq) (en : F ((List.range n).map f) o) : LcG tg tY el E0 (rngY 0 ((n : Int)).toNat) [] o F := by
  have e : rngY 0 ((n : Int)).toNat = (List.range n).map fun (i : Nat) => Y.int (i : Nat) := by
    unfold rngY
    rw [Int.toNat_natCast]
    exact List.map_congr_left fun i _ => by rw [Int.zero_add]
  rw [e]
  exact lc_map (f := f) (by rw [List.length_range]; have : szl = 16777216 := rfl; omega) (fun i hi => st i (List.mem_range.mp hi)) en
def LSums (f : FD) : Prop := ∀ {A : List (List Rat)} {fs : List Rat} {k l : Nat}, (∀ r ∈ A, r.length = colC A) → (∀ r ∈ A, ABd k r) → ABd l fs → (min A.length fs.length + 1) * (k + l + 1) < 2400 → A.length < 1000000 → fs.length < 1000000 → colC A ≤ 10000 → VP f [yMs A, yRs fs] (yRs ((List.range (colC A)).map fun j => dotR (A.map fun r => r.getD j 0) fs))
theorem lsums_ok {dt : FD} (h2 : LDot dt) : LSums (P__law_sums dt) := fun {A fs k l} hal hA hf hs1 l1 l2 hn => by
  have hszl : szl = 16777216 := rfl
  have e2 : (A.map yRs).length = A.length := List.length_map ..
  refine vp_run ?_
  walk_at "v0"
  walk_at "w"
  refine vs_cut (fun E o => o = [] ∧ E = [some (yMs A), some (yRs fs), some (.int (colC A : Nat)), none, none]) ?_ (fun E o ⟨eo, eE⟩ => ?_)
  · walk_at "v"
    refine c_neL (.lst _) (.lst _) (okMs 9 A) (by rfl) ?_
    rw [eqY_nil]
    cases A with
    | nil =>
      walk_at "v"
      exact ⟨rfl, rfl⟩
    | cons a A =>
      walk_at "v"
      refine x_lst (.lst _) (y := yRs a) (by rw [show (0 : Int) = ((0 : Nat) : Int) from rfl]; exact atI_nat rfl) ?_
      walk_at "v"
      rw [List.length_map]
      exact ⟨rfl, rfl⟩
  subst eo; subst eE
  walk_at "v"
  refine vE_Lc false (vi_range1 ?_)
  walk_at "v"
  refine ⟨_, rfl, ⟨by omega, by omega⟩, ?_⟩
  rw [Int.toNat_natCast]
  unfold rngY
  refine lc_map (f := fun j => yR (dotR (A.map fun r => r.getD j 0) fs)) (by rw [List.length_range]; omega) (fun j hj => ?_) ?_
  · rw [List.mem_range] at hj
    refine ⟨_, tg_n, ?_⟩
    dsimp only [wipeY, List.set]
    rw [Int.zero_add]
    walk_at "v"
    refine vE_Lc false (vi_seq ?_)
    walk_at "v"
    refine ⟨_, _, .lst _, ?_⟩
    refine lc_map (xs := A) (enc := yRs) (f := fun r => yR (r.getD j 0)) (by omega) (fun r hr => ⟨_, tg_n, ?_⟩) ?_
    · dsimp only [wipeY, List.set]
      walk_at "v"
      refine x_lst (.lst _) (atI_nat (mapR_at (xs := r) (i := j) (by rw [hal r hr]; exact hj))) ?_
      exact ⟨rfl, rfl⟩
    refine NL.fz ?_
    rw [show (A.map fun r => yR (r.getD j 0)) = (A.map fun r => r.getD j 0).map yR by rw [List.map_map]; rfl]
    walk_at "v"
    refine vc_p (h2 (col_bd hal hA hj) hf (by rw [List.length_map]; exact hs1) (by rw [List.length_map]; exact l1) l2) ?_
    exact ⟨rfl, rfl⟩
  refine NL.fz ?_
  rw [show ((List.range (colC A)).map fun j => yR (dotR (A.map fun r => r.getD j 0) fs)) = ((List.range (colC A)).map fun j => dotR (A.map fun r => r.getD j 0) fs).map yR by rw [List.map_map]; rfl]
  walk_at "v"
theorem zipAll {x : List Rat} : ∀ (A : List (List Rat)) (b : List Rat), b.length = A.length → ((A.zip b).all fun p => decide (dotR p.1 x = p.2)) = decide ((A.map fun r => dotR r x) = b)
  | [], [], _ => rfl
  | [], _ :: _, h => (by cases h)
  | _ :: _, [], h => (by cases h)
  | a :: A, q :: b, h => by
    simp only [List.zip_cons_cons, List.all_cons, List.map_cons, List.cons.injEq, Bool.decide_and]
    rw [zipAll A b (by simpa using h)]
theorem isSol_eq {A : List (List Rat)} {b x : List Rat} (hl : b.length = A.length) : isSolB A b x = (decide (x.length = colC A) && decide ((A.map fun r => dotR r x) = b)) := by
  unfold isSolB
  rw [zipAll A b hl]
theorem isCon_eq {A : List (List Rat)} {b x : List Rat} : isConB A b x = (decide (x.length = A.length) && (decide ((((List.range (colC A)).map fun j => dotR (A.map fun r => r.getD j 0) x).filter fun q => !decide (q = 0)) = []) && !decide (dotR b x = 0))) := by
  unfold isConB
  congr 2
  rw [Bool.eq_iff_iff, decide_eq_true_iff, List.filter_eq_nil_iff, List.all_eq_true]
  constructor
  · intro h q hq
    obtain ⟨j, hj, rfl⟩ := List.mem_map.mp hq
    rw [h j hj]
    decide
  · intro h j hj
    have := h _ (List.mem_map.mpr ⟨j, hj, rfl⟩)
    simpa using this
abbrev inR (k : Nat) : Rat := ((k : Int) : Rat)
def wdL : List Rat := (List.range 73).map inR
def tlL : List (List Rat) := (List.range 73).map fun k => [inR k]
def onL (n : Nat) : List Rat := (List.range n).map fun _ => 1
def rgL (A : List (List Rat)) : List (List Rat) := A ++ [onL (colC A + 1), onL (colC A)]
theorem on_len (n : Nat) : (onL n).length = n := by unfold onL; rw [List.length_map, List.length_range]
theorem rg_irr (A : List (List Rat)) : Irr (rgL A) := by
  cases A with
  | nil => exact ⟨onL 0, by simp [rgL, colC], by show (onL 0).length ≠ (onL 1).length; rw [on_len, on_len]; decide⟩
  | cons a A => exact ⟨onL (a.length + 1), by simp [rgL, colC], by show (onL (a.length + 1)).length ≠ a.length; rw [on_len]; omega⟩
theorem tl_irr : ¬ Irr tlL := fun ⟨r, hm, hn⟩ => hn (by
  obtain ⟨k, _, rfl⟩ := List.mem_map.mp hm
  rfl)
theorem wd_irr (r : List Rat) : ¬ Irr [r] := fun ⟨q, hm, hn⟩ => hn (by rw [List.mem_singleton.mp hm]; rfl)
theorem wd_ok : SyOk [wdL.take 72] [1] (colC [wdL.take 72]) := ⟨fun r hr => by rw [List.mem_singleton.mp hr]; rfl, rfl⟩
theorem wd_sz : SySz 326 [wdL.take 72] [1] (colC [wdL.take 72]) := sysz_of wd_ok (by decide) fun k hk => by
  have : k = 0 := by simpa using hk
  subst this
  refine ⟨1, by decide, by decide +kernel, fun x hx => ?_, 1, (by show (1 : Rat) * ((1 : Nat) : Rat) = ((1 : Int) : Rat); rw [Rat.one_mul]; rfl), by decide +kernel⟩
  have hx : x ∈ wdL := List.mem_of_mem_take hx
  obtain ⟨j, hj, rfl⟩ := List.mem_map.mp hx
  have := List.mem_range.mp hj
  refine ⟨j, by show _ * ((1 : Nat) : Rat) = _; exact Rat.mul_one _, ?_⟩
  rw [Int.natAbs_natCast]
  exact Nat.le_trans (show j ≤ 73 by omega) (by decide +kernel)
abbrev yCs (p : List (List Rat) × List Rat × Str) : Y := .tup [yMs p.1, yRs p.2.1, .str p.2.2]
def csL (A : List (List Rat)) (b : List Rat) : List (List (List Rat) × List Rat × Str) := [(rgL A, b ++ [0, 0], .ofString "invalid"), (A, b ++ [0], .ofString "invalid"), ([wdL], [1], .ofString "large"), (tlL, onL 73, .ofString "large"), (tlL, [1], .ofString "invalid"), ([wdL], [], .ofString "invalid"), ([wdL.take 72], [1], .ofString "fine"), ([1] :: [] :: tlL, onL 75, .ofString "invalid")]
theorem law06_ok {dk dt dr rk sa sm sl su sy ti ic is : FD} {ts tj : Nat → Nat → Option Bool} (h1 : Deck dk) (h2 : LDot dt) (h3 : Draw dr) (h4 : LRnk ts tj rk) (h5 : Same 1 sa) (h6 : LSmall sm) (h7 : LSlv ts tj sl) (h8 : LSums su) (h9 : LSysO sy) (h10 : LTimes ti) (h11 : PIsCon ic) (h12 : PIsSol is) (s4 : ts 4 0 = some true) (s9 : ts 9 0 = some true) (tt : TiS tj)
    (ns : List Int) (_ : ns.length ≤ 63) (hb : ∀ z ∈ ns, z.natAbs < 2 ^ 1048577) : VF (P_law_48 dk dt dr rk sa sm sl su sy ti ic is) [.frz (ns.map .int)] [] (fun y _ => y = .bl true) noq := by
  have hszl : szl = 16777216 := rfl
  refine vf_run ?_
  walk_at "v0"
  walk_at "v"
  refine vc_fr (h1 ns hb) (fun y o1 ⟨d, c, ey, eo, hk⟩ => ?_) (fun _ _ z => z.elim)
  subst ey; subst eo
  clear hb
  generalize ns.map Y.int = NS at *
  walk_at "v"
  refine (h9 d c ns 0 hk (by decide)).mono (fun y o1 ⟨A, c1, u, ey, hA, eo, k1⟩ => ?_) (fun _ _ z => z.elim)
  subst ey; subst eo
  have hm4 := hA.m4
  have hn4 := hA.n4
  have hlen : (A.map yRs).length = A.length := List.length_map ..
  walk_at "w"
  refine vs_cut (fun E o => o = [(u, .lst (A.map yRs)), (d, c1)] ∧ E = [some (.frz NS), some (.own d), some (.own u), some (.int (colC A : Nat)), none, none, none, none, none, none, none, none, none, none, none, none, none, none]) ?_ (fun E o ⟨eo, eE⟩ => ?_)
  · walk_at "v"
    refine c_neL (.own .here) (.lst _) (okMs 9 A) (by rfl) ?_
    rw [eqY_nil]
    cases A with
    | nil =>
      walk_at "v"
      exact ⟨rfl, rfl⟩
    | cons a A =>
      walk_at "v"
      refine x_lst (.own .here) (y := yRs a) (by rw [show (0 : Int) = ((0 : Nat) : Int) from rfl]; exact atI_nat rfl) ?_
      walk_at "v"
      rw [List.length_map]
      exact ⟨rfl, rfl⟩
  subst eo; subst eE
  walk_at "v"
  refine vE_Lc false (vi_range1 ?_)
  walk_at "v"
  refine ⟨_, rfl, ⟨by omega, by omega⟩, ?_⟩
  have hlr : (rngY 0 ((colC A : Int)).toNat).length = colC A := by unfold rngY; simp
  refine lc_ix (fun i acc o => ∃ (ch : List Rat) (c' : C), acc = ch.map yR ∧ ch.length = i ∧ ABd 3 ch ∧ o = [(u, .lst (A.map yRs)), (d, c')] ∧ DK ns (200 + 3 * i) c') (by rw [hlr]; omega) ⟨[], c1, rfl, rfl, fun _ w => (by cases w), rfl, k1.mono (by omega)⟩ (fun i h acc o _ ⟨ch, c6, ea, hlc, hbc, eo, k6⟩ => ?_) (fun acc o ⟨ch, c6, ea, hlc, hbc, eo, k6⟩ => ?_)
  · subst eo; subst ea
    rw [hlr] at h
    refine ⟨_, tg_n, ?_⟩
    dsimp only [wipeY, List.set]
    walk_at "v"
    refine lsmall_call h6 (.there .here) k6 (by omega) fun r c7 hr7 k7 => ?_
    refine ⟨ch ++ [r], c7, by rw [List.map_append]; rfl, by simp [hlc], fun x hx => ?_, rfl, k7.mono (by omega)⟩
    rcases List.mem_append.mp hx with hx | hx
    · exact hbc x hx
    · rw [List.mem_singleton.mp hx]; exact hr7
  subst eo; subst ea
  rw [hlr] at hlc k6
  refine NL.fz ?_
  have ldots : ∀ r ∈ A, (min r.length ch.length + 1) * (12 + 3 + 1) < 2400 := fun r hr => by
    have hrl := hA.al r hr
    have := Nat.mul_le_mul_right (12 + 3 + 1) (show min r.length ch.length + 1 ≤ 5 by omega)
    omega
  walk_at "v"
  refine vE_Lc true (vi_seq ?_)
  walk_at "v"
  refine ⟨_, _, .own .here, ?_⟩
  refine lc_mapO (.cons .here .nil) (xs := A) (enc := yRs) (f := fun r => yR (dotR r ch)) (by omega) (fun r hr => ⟨_, tg_n, ?_⟩) ?_
  · dsimp only [wipeY, List.set]
    have hrl := hA.al r hr
    walk_at "v"
    refine vc_p (h2 (hA.bd r hr) hbc (ldots r hr) (by omega) (by omega)) ?_
    exact ⟨rfl, rfl⟩
  refine NL.ow fun w hw => ?_
  rw [show (A.map fun r => yR (dotR r ch)) = (A.map fun r => dotR r ch).map yR by rw [List.map_map]; rfl]
  have hb0 : ABd 65 (A.map fun r => dotR r ch) := fun x hx => by
    obtain ⟨r, hr, rfl⟩ := List.mem_map.mp hx
    have hrl := hA.al r hr
    refine (dotR_bd (hA.bd r hr) hbc).mono ?_
    have := Nat.mul_le_mul_right (12 + 3 + 1) (show min r.length ch.length ≤ 4 by omega)
    omega
  have hbl0 : (A.map fun r => dotR r ch).length = A.length := List.length_map ..
  generalize (A.map fun r => dotR r ch) = b0 at *
  walk_at "w"
  refine vs_cut (fun E o => ∃ (b : List Rat) (c' : C), b.length = A.length ∧ ABd 65 b ∧ DK ns 300 c' ∧ o = [(w, .lst (b.map yR)), (u, .lst (A.map yRs)), (d, c')] ∧ E = [some (.frz NS), some (.own d), some (.own u), some (.int (colC A : Nat)), some (yRs ch), some (.own w), none, none, none, none, none, none, none, none, none, none, none, none]) ?_ (fun E o ⟨b, c7, hbl, hbb, k7, eo, eE⟩ => ?_)
  · walk_at "v"
    refine c_neL (.own .here) (.lst _) (okRs 10 _) (by rfl) ?_
    rw [eqY_nil]
    cases hE : b0.isEmpty with
    | true =>
      walk_at "v"
      exact ⟨b0, c6, hbl0, hb0, k6.mono (by omega), rfl, rfl⟩
    | false =>
      have hb1 : 0 < b0.length := by
        cases b0 with
        | nil => cases hE
        | cons a r => exact Nat.succ_pos _
      walk_at "v"
      refine draw_call h3 (.there (.there .here)) k6 (by omega) (by decide) (by decide) fun r5 c5 r50 r51 k5 => ?_
      walk_at "v"
      · refine lsmall_call h6 (.there (.there .here)) k5 (by omega) fun r c7 hr7 k7 => ?_
        walk_at "v"
        rw [List.length_map]
        refine draw_call h3 (.there (.there .here)) k7 (by omega) (by omega) (by omega) fun r6 c8 r60 r61 k8 => ?_
        obtain ⟨e, rfl⟩ : ∃ e : Nat, r6 = e := ⟨r6.toNat, by omega⟩
        refine st_own .here (ixN_nat (k := e) (by rw [List.length_map]; omega)) ?_
        rw [show (b0.map yR).set e (yR r) = (b0.set e r).map yR from List.map_set.symm]
        walk_at "v"
        refine ⟨b0.set e r, c8, by rw [List.length_set]; exact hbl0, fun x hx => ?_, k8.mono (by omega), rfl, rfl⟩
        rcases List.mem_or_eq_of_mem_set hx with z | z
        · exact hb0 x z
        · rw [z]; exact hr7.mono (by decide)
      · exact ⟨b0, c5, hbl0, hb0, k5.mono (by omega), rfl, rfl⟩
  subst eo; subst eE
  refine vs_freeze (n := w) .here (by walk_at "fz") ?_
  walk_at "v"
  refine vE_Lc false (vi_seq ?_)
  walk_at "v"
  refine ⟨_, _, .own .here, ?_⟩
  refine lc_ixO (.cons .here .nil) (fun i acc o => ∃ (qs : List Rat) (c' : C), acc = qs.map yR ∧ qs.length = i ∧ ABd 3 qs ∧ o = [(d, c')] ∧ DK ns (300 + 3 * i) c') (by omega) ⟨[], c7, rfl, rfl, fun _ w => (by cases w), rfl, k7.mono (by omega)⟩ (fun i h acc o _ ⟨qs, c4, ea, hlq, hbq, eo, k4⟩ => ?_) (fun acc o ⟨fs, c8, ea, hlf, hbf, eo, k8⟩ => ?_)
  · subst eo; subst ea
    rw [hlen] at h
    refine ⟨_, tg_n, ?_⟩
    dsimp only [wipeY, List.set]
    walk_at "v"
    refine lsmall_call h6 .here k4 (by omega) fun r c5 hr5 k5 => ?_
    refine ⟨qs ++ [r], c5, by rw [List.map_append]; rfl, by simp [hlq], fun x hx => ?_, rfl, k5.mono (by omega)⟩
    rcases List.mem_append.mp hx with hx | hx
    · exact hbq x hx
    · rw [List.mem_singleton.mp hx]; exact hr5
  subst eo; subst ea
  rw [hlen] at hlf k8
  refine NL.fz ?_
  walk_at "w"
  refine vs_cut (fun E o => ∃ (A' : List (List Rat)) (fs' : List Rat) (c' : C), (∀ r ∈ A', r.length = colC A ∧ ABd 14 r) ∧ A'.length = A.length ∧ colC A' = colC A ∧ fs'.length = A.length ∧ ABd 3 fs' ∧ DK ns 400 c' ∧ o = [(u, .lst (A'.map yRs)), (d, c')] ∧ E = [some (.frz NS), some (.own d), some (.own u), some (.int (colC A : Nat)), some (yRs ch), some (yRs b), some (yRs fs'), none, none, none, none, none, none, none, none, none, none, none]) ?_ (fun E o ⟨A', fs', c9, hA1, hA2, hA3, hfl, hfb, k9, eo, eE⟩ => ?_)
  · have same : (∀ r ∈ A, r.length = colC A ∧ ABd 14 r) := fun r hr => ⟨hA.al r hr, (hA.bd r hr).mono (by decide)⟩
    walk_at "v"
    · refine draw_call h3 (.there .here) k8 (by omega) (by decide) (by decide) fun r5 c5 r50 r51 k5 => ?_
      walk_at "v"
      · rename_i hl1 _
        have hl1 : 1 < A.length := by rw [hlen] at hl1; omega
        refine vE_Lc false (vi_seq ?_)
        walk_at "v"
        refine x_lst (.own .here) (y := yRs (A.getD 0 [])) (by rw [show (0 : Int) = ((0 : Nat) : Int) from rfl]; exact atI_nat (rows_at (by omega))) ?_
        have g0 : A.getD 0 [] = A[0]'(by omega) := getD_memS (by omega)
        have w2 := hA.bd _ (List.getElem_mem (show 0 < A.length by omega))
        have w1 := hA.al _ (List.getElem_mem (show 0 < A.length by omega))
        rw [← g0] at w1 w2
        refine ⟨_, _, .lst _, ?_⟩
        refine lc_map (xs := A.getD 0 []) (f := fun x => yR (2 * x)) (by omega) (fun x hx => ⟨_, tg_n, ?_⟩) ?_
        · dsimp only [wipeY, List.set]
          walk_at "v"
          rw [show Y.tup [.int 2, .int 1] = yR 2 from rfl]
          refine vc_p (h10 (k := 2) (l := 12) ⟨by decide, by decide⟩ (w2 x hx) (by decide)) ?_
          exact ⟨rfl, rfl⟩
        refine NL.fz ?_
        walk_at "v"
        refine st_own .here (ixN_nat (k := 1) (by rw [List.length_map]; exact hl1)) ?_
        rw [show (A.map yRs).set 1 (.lst ((A.getD 0 []).map fun x => yR (2 * x))) = (A.set 1 ((A.getD 0 []).map fun x => 2 * x)).map yRs from by
          rw [List.map_set]
          show _ = List.set _ 1 (Y.lst (((A.getD 0 []).map fun x => 2 * x).map yR))
          rw [List.map_map]
          rfl]
        have hA1 : ∀ r ∈ A.set 1 ((A.getD 0 []).map fun x => 2 * x), r.length = colC A ∧ ABd 14 r := fun r hr => by
          rcases List.mem_or_eq_of_mem_set hr with z | z
          · exact same r z
          · rw [z, List.length_map]
            refine ⟨w1, fun x hx => ?_⟩
            obtain ⟨x0, h0, rfl⟩ := List.mem_map.mp hx
            exact (Bd.mul (k := 2) (l := 12) ⟨by decide, by decide⟩ (w2 x0 h0)).mono (by decide)
        have hA2 : (A.set 1 ((A.getD 0 []).map fun x => 2 * x)).length = A.length := List.length_set
        have hA3 : colC (A.set 1 ((A.getD 0 []).map fun x => 2 * x)) = colC A := by
          cases A with
          | nil => exact absurd hl1 (by decide)
          | cons a A => rfl
        generalize A.set 1 ((A.getD 0 []).map fun x => 2 * x) = A' at *
        walk_at "v"
        refine vE_Lc false (vi_seq ?_)
        walk_at "v"
        rw [show cutY (A'.map yRs) (some 2) none = (A'.drop 2).map yRs from (cutY_from (k := 2)).trans List.map_drop.symm]
        refine ⟨_, _, .lst _, ?_⟩
        refine lc_map (xs := A'.drop 2) (enc := yRs) (f := fun _ => yR 0) (by rw [List.length_drop]; omega) (fun x hx => ⟨_, tg_n, ?_⟩) ?_
        · dsimp only [wipeY, List.set]
          walk_at "v"
          exact ⟨rfl, rfl⟩
        refine NL.fz ?_
        refine b_addL false (.lst _) (.lst _) (by rw [List.length_map, List.length_drop]; show 2 + _ ≤ _; omega) (NL.fz ?_)
        walk_at "v"
        refine ⟨A', -2 :: 1 :: (A'.drop 2).map fun _ => 0, c5, hA1, hA2, hA3, ?_, fun x hx => ?_, k5.mono (by omega), rfl, ?_⟩
        · rw [List.length_cons, List.length_cons, List.length_map, List.length_drop]; omega
        · rcases List.mem_cons.mp hx with z | hx
          · rw [z]; exact ⟨by decide, by decide⟩
          · rcases List.mem_cons.mp hx with z | hx
            · rw [z]; exact ⟨by decide, by decide⟩
            · obtain ⟨_, _, rfl⟩ := List.mem_map.mp hx
              exact ⟨by decide, by decide⟩
        · rw [show yRs (-2 :: 1 :: (A'.drop 2).map fun _ => 0) = .lst ([Y.tup [.int (-2), .int 1], yR 1] ++ (A'.drop 2).map fun _ => yR 0) by show Y.lst (_ :: _ :: List.map _ _) = _; rw [List.map_map]; rfl]
      · exact ⟨A, fs, c5, same, rfl, rfl, hlf, hbf, k5.mono (by omega), rfl, rfl⟩
    · exact ⟨A, fs, c8, same, rfl, rfl, hlf, hbf, k8.mono (by omega), rfl, rfl⟩
  subst eo; subst eE
  refine vs_freeze (n := u) .here (by walk_at "fz") ?_
  have hal : ∀ r ∈ A', r.length = colC A' := fun r hr => by rw [hA3]; exact (hA1 r hr).1
  have hbd : ∀ r ∈ A', ABd 14 r := fun r hr => (hA1 r hr).2
  rw [← hA3] at hlc hlr hn4 ⊢
  rw [← hA2] at hbl hfl hm4
  clear hA1 hA2 hA3 hbl0 hb0 ldots hlen k1 k6 k7 k8 hlf hbf hA hlr
  have hlen : (A'.map yRs).length = A'.length := List.length_map ..
  have hlr : (rngY 0 ((colC A' : Int)).toNat).length = colC A' := by unfold rngY; simp
  have e1 : (ch.map yR).length = ch.length := List.length_map ..
  walk_at "v"
  refine vs_for (vi_seq ?_)
  walk_at "v"
  refine b_addL false (.lst _) (.lst _) (by rw [e1]; show _ + 1 ≤ _; omega) (NL.fz ?_)
  walk_at "v"
  refine vE_Lc false (vi_range1 ?_)
  walk_at "v"
  refine ⟨_, rfl, ⟨by omega, by omega⟩, ?_⟩
  refine lc_ix (fun i acc o => ∃ (qs : List Rat) (c' : C), acc = qs.map yR ∧ qs.length = i ∧ ABd 3 qs ∧ o = [(d, c')] ∧ DK ns (400 + 3 * i) c') (by rw [hlr]; omega) ⟨[], c9, rfl, rfl, fun _ w => (by cases w), rfl, k9.mono (by omega)⟩ (fun i h acc o _ ⟨qs, c4, ea, hlq, hbq, eo, k4⟩ => ?_) (fun acc o ⟨ws, c10, ea, hlw, hbw, eo, k10⟩ => ?_)
  · subst eo; subst ea
    rw [hlr] at h
    refine ⟨_, tg_n, ?_⟩
    dsimp only [wipeY, List.set]
    walk_at "v"
    refine lsmall_call h6 .here k4 (by omega) fun r c5 hr5 k5 => ?_
    refine ⟨qs ++ [r], c5, by rw [List.map_append]; rfl, by simp [hlq], fun x hx => ?_, rfl, k5.mono (by omega)⟩
    rcases List.mem_append.mp hx with hx | hx
    · exact hbq x hx
    · rw [List.mem_singleton.mp hx]; exact hr5
  subst eo; subst ea
  rw [hlr] at hlw k10
  refine NL.fz ?_
  walk_at "v"
  have hx4 : ∀ x ∈ [ch, ch ++ [0], ch.drop 1, ws], ABd 3 x ∧ x.length ≤ 5 := fun x hx => by
    simp only [List.mem_cons, List.not_mem_nil, or_false] at hx
    rcases hx with z | z | z | z <;> rw [z]
    · exact ⟨hbc, by omega⟩
    · refine ⟨fun y hy => ?_, by rw [List.length_append]; show _ + 1 ≤ 5; omega⟩
      rcases List.mem_append.mp hy with z | z
      · exact hbc y z
      · rw [List.mem_singleton.mp z]; exact ⟨by decide, by decide⟩
    · exact ⟨fun y hy => hbc y (List.mem_of_mem_drop hy), by rw [List.length_drop]; omega⟩
    · exact ⟨hbw, by omega⟩
  rw [show [yRs ch, Y.lst (List.map yR ch ++ [yR 0]), Y.lst (cutY (List.map yR ch) (some 1) none), Y.lst (List.map yR ws)] = [ch, ch ++ [0], ch.drop 1, ws].map yRs by
    rw [show cutY (ch.map yR) (some 1) none = (ch.drop 1).map yR from (cutY_from (k := 1)).trans List.map_drop.symm, show ch.map yR ++ [yR 0] = (ch ++ [0]).map yR by rw [List.map_append]; rfl]
    rfl]
  refine ⟨_, _, .lst _, ?_⟩
  generalize [ch, ch ++ [0], ch.drop 1, ws] = L4 at *
  refine for_mapI (fun t E o => o = [(d, c10)] ∧ ∃ a7 a8, E = [some (.frz NS), some (.own d), some (yMs A'), some (.int (colC A' : Nat)), some (yRs ch), some (yRs b), some (yRs fs'), a7, a8, none, none, none, none, none, none, none, none, none]) ⟨rfl, _, _, rfl⟩ (fun t ht E o ⟨eo, a7, a8, eE⟩ => ?_) (fun E o ⟨eo, a7, a8, eE⟩ => ?_)
  · subst eo; subst eE
    obtain ⟨x3, xl⟩ := hx4 _ (List.getElem_mem ht)
    generalize L4[t] = x at *
    have ex : (x.map yR).length = x.length := List.length_map ..
    have hxs : ∀ r ∈ A', (min r.length x.length + 1) * (14 + 3 + 1) < 2400 := fun r hr => by
      have := Nat.mul_le_mul_right (14 + 3 + 1) (show min r.length x.length + 1 ≤ 6 by omega)
      omega
    have hxt : ∀ r ∈ A', r.length < 1000000 := fun r hr => by rw [hal r hr]; omega
    have his := h12 (A := A') (b := b) (x := x) (k := 14) (l := 3) hbd x3 (fun r hr => Nat.lt_trans (hxs r hr) (by decide)) (by omega)
    rw [isSol_eq hbl] at his
    refine ⟨_, tg_n, ?_⟩
    dsimp only [List.set]
    walk_at "v"
    · rename_i z
      have z : x.length = colC A' := by rw [← ex]; exact Int.ofNat.inj z
      refine vE_Lc false (vi_seq ?_)
      walk_at "v"
      refine ⟨_, _, .lst _, ?_⟩
      refine lc_map (xs := A') (enc := yRs) (f := fun r => yR (dotR r x)) (by omega) (fun r hr => ⟨_, tg_n, ?_⟩) ?_
      · dsimp only [wipeY, List.set]
        walk_at "v"
        refine vc_p (h2 (hbd r hr) x3 (hxs r hr) (hxt r hr) (by omega)) ?_
        exact ⟨rfl, rfl⟩
      refine NL.fz ?_
      rw [show (A'.map fun r => yR (dotR r x)) = (A'.map fun r => dotR r x).map yR by rw [List.map_map]; rfl]
      walk_at "v"
      refine c_eqL (.lst _) (.lst _) (okRs 10 _) (okRs 10 _) ?_
      rw [show eqY (Y.lst ((A'.map fun r => dotR r x).map yR)) (Y.lst (b.map yR)) = decide ((A'.map fun r => dotR r x) = b) from eqY_Rs _ _]
      rw [decide_eq_true z, Bool.true_and] at his
      generalize decide ((A'.map fun r => dotR r x) = b) = kk at *
      walk_at "v"
      refine vc_p his ?_
      walk_at "v"
      exact ⟨rfl, _, _, rfl⟩
    · rename_i z
      rw [decide_eq_false (show ¬ x.length = colC A' from fun w => z (by rw [ex, w])), Bool.false_and] at his
      rw [decide_eq_false z]
      refine vc_p his ?_
      walk_at "v"
      exact ⟨rfl, _, _, rfl⟩
  · subst eo; subst eE
    refine sq_nx ?_
    have e3 : (fs'.map yR).length = fs'.length := List.length_map ..
    walk_at "v"
    refine vs_for (vi_seq ?_)
    walk_at "v"
    refine b_addL false (.lst _) (.lst _) (by rw [e3]; show _ + 1 ≤ _; omega) (NL.fz ?_)
    walk_at "v"
    refine vE_Lc false (vi_seq ?_)
    walk_at "v"
    refine ⟨_, _, .lst _, ?_⟩
    refine lc_ix (fun i acc o => ∃ (qs : List Rat) (c' : C), acc = qs.map yR ∧ qs.length = i ∧ ABd 3 qs ∧ o = [(d, c')] ∧ DK ns (500 + 3 * i) c') (by omega) ⟨[], c10, rfl, rfl, fun _ w => (by cases w), rfl, k10.mono (by omega)⟩ (fun i h acc o _ ⟨qs, c4, ea, hlq, hbq, eo, k4⟩ => ?_) (fun acc o ⟨vs, c11, ea, hlv, hbv, eo, k11⟩ => ?_)
    · subst eo; subst ea
      rw [hlen] at h
      refine ⟨_, tg_n, ?_⟩
      dsimp only [wipeY, List.set]
      walk_at "v"
      refine lsmall_call h6 .here k4 (by omega) fun r c5 hr5 k5 => ?_
      refine ⟨qs ++ [r], c5, by rw [List.map_append]; rfl, by simp [hlq], fun x hx => ?_, rfl, k5.mono (by omega)⟩
      rcases List.mem_append.mp hx with hx | hx
      · exact hbq x hx
      · rw [List.mem_singleton.mp hx]; exact hr5
    subst eo; subst ea
    rw [hlen] at hlv k11
    refine NL.fz ?_
    walk_at "v"
    have hx5 : ∀ x ∈ [fs', fs' ++ [1], fs'.drop 1, vs], ABd 3 x ∧ x.length ≤ 5 := fun x hx => by
      simp only [List.mem_cons, List.not_mem_nil, or_false] at hx
      rcases hx with z | z | z | z <;> rw [z]
      · exact ⟨hfb, by omega⟩
      · refine ⟨fun y hy => ?_, by rw [List.length_append]; show _ + 1 ≤ 5; omega⟩
        rcases List.mem_append.mp hy with z | z
        · exact hfb y z
        · rw [List.mem_singleton.mp z]; exact ⟨by decide, by decide⟩
      · exact ⟨fun y hy => hfb y (List.mem_of_mem_drop hy), by rw [List.length_drop]; omega⟩
      · exact ⟨hbv, by omega⟩
    rw [show [yRs fs', Y.lst (List.map yR fs' ++ [yR 1]), Y.lst (cutY (List.map yR fs') (some 1) none), Y.lst (List.map yR vs)] = [fs', fs' ++ [1], fs'.drop 1, vs].map yRs by
      rw [show cutY (fs'.map yR) (some 1) none = (fs'.drop 1).map yR from (cutY_from (k := 1)).trans List.map_drop.symm, show fs'.map yR ++ [yR 1] = (fs' ++ [1]).map yR by rw [List.map_append]; rfl]
      rfl]
    refine ⟨_, _, .lst _, ?_⟩
    generalize [fs', fs' ++ [1], fs'.drop 1, vs] = L5 at *
    refine for_mapI (fun t E o => o = [(d, c11)] ∧ ∃ a7 a8, E = [some (.frz NS), some (.own d), some (yMs A'), some (.int (colC A' : Nat)), some (yRs ch), some (yRs b), some (yRs fs'), a7, a8, none, none, none, none, none, none, none, none, none]) ⟨rfl, _, _, rfl⟩ (fun t ht E o ⟨eo, a7, a8, eE⟩ => ?_) (fun E o ⟨eo, a7, a8, eE⟩ => ?_)
    · subst eo; subst eE
      obtain ⟨x3, xl⟩ := hx5 _ (List.getElem_mem ht)
      generalize L5[t] = x at *
      have ex : (x.map yR).length = x.length := List.length_map ..
      have hxs : (min A'.length x.length + 1) * (14 + 3 + 1) < 2400 := by
        have := Nat.mul_le_mul_right (14 + 3 + 1) (show min A'.length x.length + 1 ≤ 6 by omega)
        omega
      have hxb : (min b.length x.length + 1) * (65 + 3 + 1) < 2400 := by
        have := Nat.mul_le_mul_right (65 + 3 + 1) (show min b.length x.length + 1 ≤ 6 by omega)
        omega
      have hic := h11 (A := A') (b := b) (fs := x) (k := 65) (l := 3) hal (fun r hr => (hbd r hr).mono (by decide)) hbb x3 (by have := Nat.mul_le_mul_right (65 + 3 + 1) (show min A'.length x.length + 1 ≤ 6 by omega); omega) (Nat.lt_trans hxb (by decide)) (by omega) (by omega)
      rw [isCon_eq] at hic
      refine ⟨_, tg_n, ?_⟩
      dsimp only [List.set]
      walk_at "v"
      · rename_i z
        have z : x.length = A'.length := by rw [← ex, ← hlen]; exact Int.ofNat.inj z
        refine vE_Lc false (vi_seq ?_)
        walk_at "v"
        refine vc_p (h8 hal hbd x3 hxs (by omega) (by omega) (by omega)) ?_
        refine ⟨_, _, .lst _, ?_⟩
        rw [decide_eq_true z, Bool.true_and] at hic
        have hrs : ∀ q ∈ (List.range (colC A')).map fun j => dotR (A'.map fun r => r.getD j 0) x, Bd 2400 q := fun q hq => by
          obtain ⟨j, hj, rfl⟩ := List.mem_map.mp hq
          refine (dotR_bd (col_bd hal hbd (List.mem_range.mp hj)) x3).mono ?_
          rw [List.length_map]
          have := Nat.mul_le_mul_right (14 + 3 + 1) (show min A'.length x.length ≤ 6 by omega)
          omega
        have hrl : ((List.range (colC A')).map fun j => dotR (A'.map fun r => r.getD j 0) x).length = colC A' := by rw [List.length_map, List.length_range]
        generalize ((List.range (colC A')).map fun j => dotR (A'.map fun r => r.getD j 0) x) = rs at *
        refine lc_filter (xs := rs) (enc := yR) (f := yR) (p := fun q => !decide (q = 0)) (by omega) (fun q hq => ⟨_, tg_n, ?_⟩) ?_
        · dsimp only [wipeY, List.set]
          have bq := hrs q hq
          walk_at "v"
          exact ⟨by rw [decide_eq_decide.mpr num0], rfl, fun _ => by
            walk_at "v"
            exact ⟨rfl, rfl⟩⟩
        refine NL.fz ?_
        walk_at "v"
        refine c_eqL (.lst _) (.lst _) (okRs 10 _) (by rfl) ?_
        rw [show eqY (Y.lst ((rs.filter fun q => !decide (q = 0)).map yR)) (Y.lst []) = decide ((rs.filter fun q => !decide (q = 0)) = []) from eqY_Rs _ []]
        have bdt : Bd 2400 (dotR b x) := (dotR_bd hbb x3).mono (by
          have := Nat.mul_le_mul_right (65 + 3 + 1) (show min b.length x.length ≤ 6 by omega)
          omega)
        cases hk1 : decide ((rs.filter fun q => !decide (q = 0)) = []) with
        | true =>
          rw [hk1, Bool.true_and] at hic
          walk_at "v"
          refine vc_p (h2 hbb x3 hxb (by omega) (by omega)) ?_
          walk_at "v"
          rw [show decide ((dotR b x).num = 0) = decide (dotR b x = 0) from decide_eq_decide.mpr num0]
          generalize (!decide (dotR b x = 0)) = kk at *
          refine vc_p hic ?_
          walk_at "v"
          exact ⟨rfl, _, _, rfl⟩
        | false =>
          rw [hk1, Bool.false_and] at hic
          walk_at "v"
          refine vc_p hic ?_
          walk_at "v"
          exact ⟨rfl, _, _, rfl⟩
      · rename_i z1 z
        rw [decide_eq_false (show ¬ x.length = A'.length from fun w => z (by rw [ex, hlen, w])), Bool.false_and] at hic
        rw [decide_eq_false z]
        refine vc_p hic ?_
        walk_at "v"
        exact ⟨rfl, _, _, rfl⟩
    · subst eo; subst eE
      refine sq_nx ?_
      walk_at "v"
      refine vE_Lc false (vi_range1 ?_)
      walk_at "v"
      refine ⟨_, rfl, ⟨by omega, by omega⟩, ?_⟩
      refine lc_rngS (n := 73) (f := fun k => (((k : Nat) : Int) : Rat)) (by omega) (fun j hj => ⟨_, tg_n, ?_⟩) ?_
      · dsimp only [wipeY, List.set]
        walk_at "v"
        exact ⟨rfl, rfl⟩
      refine NL.fz ?_
      walk_at "v"
      rw [show Y.lst (((List.range 73).map fun k => (((k : Nat) : Int) : Rat)).map yR) = yRs wdL from rfl]
      refine vE_Lc false (vi_range1 ?_)
      walk_at "v"
      refine ⟨_, rfl, ⟨by omega, by omega⟩, ?_⟩
      refine lc_rngY (n := 73) (f := fun k => yRs [inR k]) (by omega) (fun j hj => ⟨_, tg_n, ?_⟩) ?_
      · dsimp only [wipeY, List.set]
        walk_at "v"
        exact ⟨rfl, rfl⟩
      refine NL.fz ?_
      rw [show ((List.range 73).map fun k => yRs [inR k]) = tlL.map yRs by unfold tlL; rw [List.map_map]; rfl]
      walk_at "v"
      refine vE_Lc false (vi_range1 ?_)
      walk_at "v"
      refine ⟨_, rfl, ⟨by omega, by omega⟩, ?_⟩
      rw [show ((colC A' : Nat) : Int) + 1 = ((colC A' + 1 : Nat) : Int) by omega]
      refine lc_rngS (n := colC A' + 1) (f := fun _ => 1) (by omega) (fun j hj => ⟨_, tg_n, ?_⟩) ?_
      · dsimp only [wipeY, List.set]
        walk_at "v"
        exact ⟨rfl, rfl⟩
      refine NL.fz ?_
      walk_at "v"
      refine vE_Lc false (vi_range1 ?_)
      walk_at "v"
      refine ⟨_, rfl, ⟨by omega, by omega⟩, ?_⟩
      refine lc_rngS (n := colC A') (f := fun _ => 1) (by omega) (fun j hj => ⟨_, tg_n, ?_⟩) ?_
      · dsimp only [wipeY, List.set]
        walk_at "v"
        exact ⟨rfl, rfl⟩
      refine NL.fz ?_
      walk_at "v"
      refine b_addL false (.lst _) (.lst _) (by rw [hlen]; show _ + 2 ≤ _; omega) (NL.fz ?_)
      rw [show A'.map yRs ++ [Y.lst (((List.range (colC A' + 1)).map fun _ => (1 : Rat)).map yR), Y.lst (((List.range (colC A')).map fun _ => (1 : Rat)).map yR)] = (rgL A').map yRs by unfold rgL; rw [List.map_append]; rfl]
      have e4 : (b.map yR).length = b.length := List.length_map ..
      walk_at "v"
      refine b_addL false (.lst _) (.lst _) (by rw [e4]; show _ + 2 ≤ _; omega) (NL.fz ?_)
      rw [show b.map yR ++ [yR 0, yR 0] = (b ++ [0, 0]).map yR by rw [List.map_append]; rfl]
      walk_at "v"
      refine b_addL false (.lst _) (.lst _) (by rw [e4]; show _ + 1 ≤ _; omega) (NL.fz ?_)
      rw [show b.map yR ++ [yR 0] = (b ++ [0]).map yR by rw [List.map_append]; rfl]
      walk_at "v"
      refine vE_Lc false (vi_range1 ?_)
      walk_at "v"
      refine ⟨_, rfl, ⟨by omega, by omega⟩, ?_⟩
      refine lc_rngS (n := 73) (f := fun _ => 1) (by omega) (fun j hj => ⟨_, tg_n, ?_⟩) ?_
      · dsimp only [wipeY, List.set]
        walk_at "v"
        exact ⟨rfl, rfl⟩
      refine NL.fz ?_
      rw [show Y.lst (((List.range 73).map fun _ => (1 : Rat)).map yR) = yRs (onL 73) from rfl]
      walk_at "v"
      refine vE_Lc false (vi_seq ?_)
      walk_at "v"
      refine ⟨_, _, .lst _, ?_⟩
      refine lc_map (xs := [wdL]) (enc := yRs) (f := fun r => yRs (r.take 72)) (by show 1 ≤ _; omega) (fun x hx => ⟨_, tg_n, ?_⟩) ?_
      · dsimp only [wipeY, List.set]
        walk_at "v"
        exact ⟨by rw [show cutY (x.map yR) none (some 72) = (x.take 72).map yR from (cutY_to (k := 72)).trans List.map_take.symm], rfl⟩
      refine NL.fz ?_
      rw [show Y.lst ([wdL].map fun r => yRs (r.take 72)) = yMs [wdL.take 72] from rfl]
      walk_at "v"
      refine b_addL false (.lst _) (.lst _) (by rw [List.length_map]; show 2 + 73 ≤ _; omega) (NL.fz ?_)
      rw [show Y.lst ([Y.lst [yR 1], Y.lst []] ++ tlL.map yRs) = yMs ([1] :: [] :: tlL) from rfl]
      walk_at "v"
      refine vE_Lc false (vi_range1 ?_)
      walk_at "v"
      refine ⟨_, rfl, ⟨by omega, by omega⟩, ?_⟩
      refine lc_rngS (n := 75) (f := fun _ => 1) (by omega) (fun j hj => ⟨_, tg_n, ?_⟩) ?_
      · dsimp only [wipeY, List.set]
        walk_at "v"
        exact ⟨rfl, rfl⟩
      refine NL.fz ?_
      rw [show Y.lst (((List.range 75).map fun _ => (1 : Rat)).map yR) = yRs (onL 75) from rfl]
      walk_at "v"
      obtain ⟨k1, k2, k3⟩ := h7 s4 s9 tt
      obtain ⟨k4, k5⟩ := h4 s4 s9 tt
      rw [show [Y.tup [Y.lst (List.map yRs (rgL A')), Y.lst (List.map yR (b ++ [0, 0])), Y.str (Str.ofString "invalid")],
            Y.tup [yMs A', Y.lst (List.map yR (b ++ [0])), Y.str (Str.ofString "invalid")],
            Y.tup [Y.lst [yRs wdL], Y.lst [yR 1], Y.str (Str.ofString "large")],
            Y.tup [Y.lst (List.map yRs tlL), yRs (onL 73), Y.str (Str.ofString "large")],
            Y.tup [Y.lst (List.map yRs tlL), Y.lst [yR 1], Y.str (Str.ofString "invalid")],
            Y.tup [Y.lst [yRs wdL], Y.lst [], Y.str (Str.ofString "invalid")],
            Y.tup [yMs [List.take 72 wdL], Y.lst [yR 1], Y.str (Str.ofString "fine")],
            Y.tup [yMs ([1] :: [] :: tlL), yRs (onL 75), Y.str (Str.ofString "invalid")]] = (csL A' b).map yCs from rfl]
      have hcs : ∀ p ∈ csL A' b, VP sl [yMs p.1, yRs p.2.1] (.str p.2.2) := fun p hp => by
        simp only [csL, List.mem_cons, List.not_mem_nil, or_false] at hp
        rcases hp with z | z | z | z | z | z | z | z <;> rw [z]
        · exact k1 _ _ (.inl (rg_irr A'))
        · exact k1 _ _ (.inr (by show (b ++ [0]).length ≠ A'.length; rw [List.length_append, hbl]; show A'.length + 1 ≠ _; omega))
        · exact k2 _ _ (wd_irr _) rfl (.inr (by show 72 < wdL.length; decide +kernel))
        · exact k2 _ _ tl_irr (by decide +kernel) (.inl (by decide +kernel))
        · exact k1 _ _ (.inr (by decide +kernel))
        · exact k1 _ _ (.inr (by decide +kernel))
        · exact k3 _ _ 326 wd_ok wd_sz (by decide) (by decide +kernel) (by decide)
        · exact k1 _ _ (.inl ⟨[], by simp, by decide⟩)
      generalize csL A' b = L8 at *
      refine vs_for (vi_seq ?_)
      walk_at "v"
      refine ⟨_, _, .lst _, ?_⟩
      refine for_mapI (fun t E o => o = [(d, c11)] ∧ ∃ a13, E = [some (.frz NS), some (.own d), some (yMs A'), some (.int (colC A' : Nat)), some (yRs ch), some (yRs b), some (yRs fs'), a7, a8, some (.lst [yRs wdL]), some (.lst (tlL.map yRs)), some (.lst ((rgL A').map yRs)), some (.lst (L8.map yCs)), a13, none, none, none, none]) ⟨rfl, _, rfl⟩ (fun t ht E o ⟨eo, a13, eE⟩ => ?_) (fun E o ⟨eo, a13, eE⟩ => ?_)
      · subst eo; subst eE
        have hp := hcs _ (List.getElem_mem ht)
        generalize L8[t] = p at *
        refine ⟨_, tg_n, ?_⟩
        dsimp only [List.set]
        walk_at "v"
        refine vc_p hp ?_
        walk_at "v"
        exact ⟨rfl, _, rfl⟩
      · subst eo; subst eE
        refine sq_nx ?_
        have r1 := k4 _ (rg_irr A')
        have r2 := k5 [wdL] (wd_irr _) (.inr (by show 72 < wdL.length; decide +kernel))
        have r3 := k5 tlL tl_irr (.inl (by decide +kernel))
        walk_at "v"
        refine vc_p r1 ?_
        walk_at "v"
        refine vc_p r2 ?_
        walk_at "v"
        refine vc_p r3 ?_
        walk_at "v"
        exact ret_0 rfl
end
end Mn
namespace Lw
open PySem L2 Mn
def topS (i : Nat) : Stmt := PySem.Challenge.pw_unbent_k06_systems_judged.main.body.getD i (.Pass ⟨0, 0, 0, 0⟩)
def subT : Nat → Nat → Option Bool := tb2 [(4, 0, true), (9, 0, true), (16, 0, true)]
def isiT : Nat → Nat → Option Bool := tb2 [(4, 4, true), (4, 9, false), (9, 4, false), (9, 9, true), (16, 4, false), (16, 9, false)]
def xaT : Nat → List Nat := xaOf []
def gl0 : Str × GV := ("make", .fn 0 2 [.int 1])
def gl1 : Str × GV := ("add", .fn 1 2 [])
def gl2 : Str × GV := ("negate", .fn 2 1 [])
def gl3 : Str × GV := ("multiply", .fn 3 2 [])
def gl4 : Str × GV := ("divide", .fn 4 2 [])
def gl5 : Str × GV := ("compare", .fn 5 2 [])
def gl6 : Str × GV := ("sign", .fn 6 1 [])
def gl7 : Str × GV := ("total", .fn 7 1 [])
def gl8 : Str × GV := ("dot", .fn 8 2 [])
def gl9 : Str × GV := ("column_count", .fn 9 1 [])
def gl10 : Str × GV := ("check_rows", .fn 10 1 [])
def gl11 : Str × GV := ("check_system", .fn 11 2 [])
def gl12 : Str × GV := ("unit_row", .fn 12 2 [])
def gl13 : Str × GV := ("plus_multiple", .fn 13 3 [])
def gl14 : Str × GV := ("first_row_with", .fn 14 3 [])
def gl15 : Str × GV := ("eliminated", .fn 15 2 [])
def gl16 : Str × GV := ("rank", .fn 16 1 [])
def gl17 : Str × GV := ("solve", .fn 17 2 [])
def gl18 : Str × GV := ("is_solution", .fn 18 3 [])
def gl19 : Str × GV := ("is_contradiction", .fn 19 3 [])
def gl20 : Str × GV := ("_law_deck", .fn 20 1 [])
def gl21 : Str × GV := ("_law_draw", .fn 21 2 [])
def gl22 : Str × GV := ("_law_same", .fn 22 2 [])
def gl23 : Str × GV := ("_law_gcd", .fn 23 2 [])
def gl24 : Str × GV := ("_law_ratio", .fn 24 2 [])
def gl25 : Str × GV := ("_law_add", .fn 25 2 [])
def gl26 : Str × GV := ("_law_times", .fn 26 2 [])
def gl27 : Str × GV := ("_law_total", .fn 27 1 [])
def gl28 : Str × GV := ("_law_dot", .fn 28 2 [])
def gl29 : Str × GV := ("_law_small", .fn 29 1 [])
def gl30 : Str × GV := ("_law_system", .fn 30 1 [])
def gl31 : Str × GV := ("_law_sums", .fn 31 2 [])
def gl32 : Str × GV := ("_law_kind", .fn 32 1 [])
def gl33 : Str × GV := ("_law_solved", .fn 33 2 [])
def gl34 : Str × GV := ("_law_ranked", .fn 34 1 [])
def gl35 : Str × GV := ("law", .fn 35 1 [])
def gl36 : Str × GV := ("UnbentError", .cls 0)
def gl37 : Str × GV := ("InvalidSystem", .xcls 4 [69])
def gl38 : Str × GV := ("TooLarge", .xcls 9 [48])
def gl39 : Str × GV := ("ZeroDenominator", .cls 16)
def gl40 : Str × GV := ("ZERO", .val (.tup [(.int 0), (.int 1)]))
def gl41 : Str × GV := ("ONE", .val (.tup [(.int 1), (.int 1)]))
def gl42 : Str × GV := ("MOST", .val (.int 72))
def gl43 : Str × GV := ("gcd", .bf "math.gcd")
def gl44 : Str × GV := ("ValueError", .blt)
def gl45 : Str × GV := ("abs", .blt)
def gl46 : Str × GV := ("all", .blt)
def gl47 : Str × GV := ("bool", .blt)
def gl48 : Str × GV := ("enumerate", .blt)
def gl49 : Str × GV := ("int", .blt)
def gl50 : Str × GV := ("isinstance", .blt)
def gl51 : Str × GV := ("len", .blt)
def gl52 : Str × GV := ("list", .blt)
def gl53 : Str × GV := ("min", .blt)
def gl54 : Str × GV := ("range", .blt)
def gl55 : Str × GV := ("str", .blt)
def gl56 : Str × GV := ("tuple", .blt)
def gl57 : Str × GV := ("zip", .blt)
def gl : List (Str × GV) := [gl0, gl1, gl2, gl3, gl4, gl5, gl6, gl7, gl8, gl9, gl10, gl11, gl12, gl13, gl14, gl15, gl16, gl17, gl18, gl19, gl20, gl21, gl22, gl23, gl24, gl25, gl26, gl27, gl28, gl29, gl30, gl31, gl32, gl33, gl34, gl35, gl36, gl37, gl38, gl39, gl40, gl41, gl42, gl43, gl44, gl45, gl46, gl47, gl48, gl49, gl50, gl51, gl52, gl53, gl54, gl55, gl56, gl57]
abbrev st_make : Stmt := topS 9
abbrev nm_make : List Str := ["p", "q", "divisor"]
theorem sc_make : FnScope nm_make ["p", "q"] (defScope st_make) := ⟨rfl, rfl, rfl, by decide +kernel, rfl, by decide +kernel, by decide +kernel⟩
abbrev st_add : Stmt := topS 10
abbrev nm_add : List Str := ["a", "b"]
theorem sc_add : FnScope nm_add ["a", "b"] (defScope st_add) := ⟨rfl, rfl, rfl, by decide +kernel, rfl, by decide +kernel, by decide +kernel⟩
abbrev st_negate : Stmt := topS 11
abbrev nm_negate : List Str := ["a"]
theorem sc_negate : FnScope nm_negate ["a"] (defScope st_negate) := ⟨rfl, rfl, rfl, by decide +kernel, rfl, by decide +kernel, by decide +kernel⟩
abbrev st_multiply : Stmt := topS 12
abbrev nm_multiply : List Str := ["a", "b"]
theorem sc_multiply : FnScope nm_multiply ["a", "b"] (defScope st_multiply) := ⟨rfl, rfl, rfl, by decide +kernel, rfl, by decide +kernel, by decide +kernel⟩
abbrev st_divide : Stmt := topS 13
abbrev nm_divide : List Str := ["a", "b"]
theorem sc_divide : FnScope nm_divide ["a", "b"] (defScope st_divide) := ⟨rfl, rfl, rfl, by decide +kernel, rfl, by decide +kernel, by decide +kernel⟩
abbrev st_compare : Stmt := topS 14
abbrev nm_compare : List Str := ["a", "b", "difference"]
theorem sc_compare : FnScope nm_compare ["a", "b"] (defScope st_compare) := ⟨rfl, rfl, rfl, by decide +kernel, rfl, by decide +kernel, by decide +kernel⟩
abbrev st_sign : Stmt := topS 15
abbrev nm_sign : List Str := ["a"]
theorem sc_sign : FnScope nm_sign ["a"] (defScope st_sign) := ⟨rfl, rfl, rfl, by decide +kernel, rfl, by decide +kernel, by decide +kernel⟩
abbrev st_total : Stmt := topS 16
abbrev nm_total : List Str := ["values", "result", "value"]
theorem sc_total : FnScope nm_total ["values"] (defScope st_total) := ⟨rfl, rfl, rfl, by decide +kernel, rfl, by decide +kernel, by decide +kernel⟩
abbrev st_dot : Stmt := topS 17
abbrev nm_dot : List Str := ["first", "second", "a", "b"]
theorem sc_dot : FnScope nm_dot ["first", "second"] (defScope st_dot) := ⟨rfl, rfl, rfl, by decide +kernel, rfl, by decide +kernel, by decide +kernel⟩
abbrev st_column_count : Stmt := topS 20
abbrev nm_column_count : List Str := ["rows"]
theorem sc_column_count : FnScope nm_column_count ["rows"] (defScope st_column_count) := ⟨rfl, rfl, rfl, by decide +kernel, rfl, by decide +kernel, by decide +kernel⟩
abbrev st_check_rows : Stmt := topS 21
abbrev nm_check_rows : List Str := ["rows", "columns", "row"]
theorem sc_check_rows : FnScope nm_check_rows ["rows"] (defScope st_check_rows) := ⟨rfl, rfl, rfl, by decide +kernel, rfl, by decide +kernel, by decide +kernel⟩
abbrev st_check_system : Stmt := topS 22
abbrev nm_check_system : List Str := ["rows", "bounds", "columns", "row"]
theorem sc_check_system : FnScope nm_check_system ["rows", "bounds"] (defScope st_check_system) := ⟨rfl, rfl, rfl, by decide +kernel, rfl, by decide +kernel, by decide +kernel⟩
abbrev st_unit_row : Stmt := topS 23
abbrev nm_unit_row : List Str := ["length", "index", "k"]
theorem sc_unit_row : FnScope nm_unit_row ["length", "index"] (defScope st_unit_row) := ⟨rfl, rfl, rfl, by decide +kernel, rfl, by decide +kernel, by decide +kernel⟩
abbrev st_plus_multiple : Stmt := topS 24
abbrev nm_plus_multiple : List Str := ["row", "other", "factor", "a", "b"]
theorem sc_plus_multiple : FnScope nm_plus_multiple ["row", "other", "factor"] (defScope st_plus_multiple) := ⟨rfl, rfl, rfl, by decide +kernel, rfl, by decide +kernel, by decide +kernel⟩
abbrev st_first_row_with : Stmt := topS 25
abbrev nm_first_row_with : List Str := ["table", "start", "column", "index"]
theorem sc_first_row_with : FnScope nm_first_row_with ["table", "start", "column"] (defScope st_first_row_with) := ⟨rfl, rfl, rfl, by decide +kernel, rfl, by decide +kernel, by decide +kernel⟩
abbrev st_eliminated : Stmt := topS 26
abbrev nm_eliminated : List Str := ["table", "columns", "pivots", "column", "index", "at", "found", "scale", "other", "row", "value"]
theorem sc_eliminated : FnScope nm_eliminated ["table", "columns"] (defScope st_eliminated) := ⟨rfl, rfl, rfl, by decide +kernel, rfl, by decide +kernel, by decide +kernel⟩
abbrev st_rank : Stmt := topS 27
abbrev nm_rank : List Str := ["rows"]
theorem sc_rank : FnScope nm_rank ["rows"] (defScope st_rank) := ⟨rfl, rfl, rfl, by decide +kernel, rfl, by decide +kernel, by decide +kernel⟩
abbrev st_solve : Stmt := topS 28
abbrev nm_solve : List Str := ["rows", "bounds", "columns", "table", "index", "row", "pivots", "values", "column"]
theorem sc_solve : FnScope nm_solve ["rows", "bounds"] (defScope st_solve) := ⟨rfl, rfl, rfl, by decide +kernel, rfl, by decide +kernel, by decide +kernel⟩
abbrev st_is_solution : Stmt := topS 29
abbrev nm_is_solution : List Str := ["rows", "bounds", "values", "row", "bound"]
theorem sc_is_solution : FnScope nm_is_solution ["rows", "bounds", "values"] (defScope st_is_solution) := ⟨rfl, rfl, rfl, by decide +kernel, rfl, by decide +kernel, by decide +kernel⟩
abbrev st_is_contradiction : Stmt := topS 30
abbrev nm_is_contradiction : List Str := ["rows", "bounds", "factors", "column", "row"]
theorem sc_is_contradiction : FnScope nm_is_contradiction ["rows", "bounds", "factors"] (defScope st_is_contradiction) := ⟨rfl, rfl, rfl, by decide +kernel, rfl, by decide +kernel, by decide +kernel⟩
abbrev st__law_deck : Stmt := topS 32
abbrev nm__law_deck : List Str := ["_law_script"]
theorem sc__law_deck : FnScope nm__law_deck ["_law_script"] (defScope st__law_deck) := ⟨rfl, rfl, rfl, by decide +kernel, rfl, by decide +kernel, by decide +kernel⟩
abbrev st__law_draw : Stmt := topS 33
abbrev nm__law_draw : List Str := ["_law_deck_here", "_law_most", "_law_value", "_law_cell"]
theorem sc__law_draw : FnScope nm__law_draw ["_law_deck_here", "_law_most"] (defScope st__law_draw) := ⟨rfl, rfl, rfl, by decide +kernel, rfl, by decide +kernel, by decide +kernel⟩
abbrev st__law_same : Stmt := topS 34
abbrev nm__law_same : List Str := ["_law_actual", "_law_due", "_law_k"]
theorem sc__law_same : FnScope nm__law_same ["_law_actual", "_law_due"] (defScope st__law_same) := ⟨rfl, rfl, rfl, by decide +kernel, rfl, by decide +kernel, by decide +kernel⟩
abbrev st__law_gcd : Stmt := topS 35
abbrev nm__law_gcd : List Str := ["_law_a", "_law_b", "_law_k", "_law_rest"]
theorem sc__law_gcd : FnScope nm__law_gcd ["_law_a", "_law_b"] (defScope st__law_gcd) := ⟨rfl, rfl, rfl, by decide +kernel, rfl, by decide +kernel, by decide +kernel⟩
abbrev st__law_ratio : Stmt := topS 36
abbrev nm__law_ratio : List Str := ["_law_p", "_law_q", "_law_divisor"]
theorem sc__law_ratio : FnScope nm__law_ratio ["_law_p", "_law_q"] (defScope st__law_ratio) := ⟨rfl, rfl, rfl, by decide +kernel, rfl, by decide +kernel, by decide +kernel⟩
abbrev st__law_add : Stmt := topS 37
abbrev nm__law_add : List Str := ["_law_a", "_law_b"]
theorem sc__law_add : FnScope nm__law_add ["_law_a", "_law_b"] (defScope st__law_add) := ⟨rfl, rfl, rfl, by decide +kernel, rfl, by decide +kernel, by decide +kernel⟩
abbrev st__law_times : Stmt := topS 38
abbrev nm__law_times : List Str := ["_law_a", "_law_b"]
theorem sc__law_times : FnScope nm__law_times ["_law_a", "_law_b"] (defScope st__law_times) := ⟨rfl, rfl, rfl, by decide +kernel, rfl, by decide +kernel, by decide +kernel⟩
abbrev st__law_total : Stmt := topS 39
abbrev nm__law_total : List Str := ["_law_values", "_law_result", "_law_value"]
theorem sc__law_total : FnScope nm__law_total ["_law_values"] (defScope st__law_total) := ⟨rfl, rfl, rfl, by decide +kernel, rfl, by decide +kernel, by decide +kernel⟩
abbrev st__law_dot : Stmt := topS 40
abbrev nm__law_dot : List Str := ["_law_first", "_law_second", "_law_k"]
theorem sc__law_dot : FnScope nm__law_dot ["_law_first", "_law_second"] (defScope st__law_dot) := ⟨rfl, rfl, rfl, by decide +kernel, rfl, by decide +kernel, by decide +kernel⟩
abbrev st__law_small : Stmt := topS 41
abbrev nm__law_small : List Str := ["_law_deck_here"]
theorem sc__law_small : FnScope nm__law_small ["_law_deck_here"] (defScope st__law_small) := ⟨rfl, rfl, rfl, by decide +kernel, rfl, by decide +kernel, by decide +kernel⟩
abbrev st__law_system : Stmt := topS 42
abbrev nm__law_system : List Str := ["_law_deck_here", "_law_columns", "_law_rows", "_law_k", "_law_row", "_law_other", "_law_factor", "_law_j", "_law_value"]
theorem sc__law_system : FnScope nm__law_system ["_law_deck_here"] (defScope st__law_system) := ⟨rfl, rfl, rfl, by decide +kernel, rfl, by decide +kernel, by decide +kernel⟩
abbrev st__law_sums : Stmt := topS 43
abbrev nm__law_sums : List Str := ["_law_rows", "_law_factors", "_law_columns", "_law_column", "_law_row"]
theorem sc__law_sums : FnScope nm__law_sums ["_law_rows", "_law_factors"] (defScope st__law_sums) := ⟨rfl, rfl, rfl, by decide +kernel, rfl, by decide +kernel, by decide +kernel⟩
abbrev st__law_kind : Stmt := topS 44
abbrev nm__law_kind : List Str := ["_law_e"]
theorem sc__law_kind : FnScope nm__law_kind ["_law_e"] (defScope st__law_kind) := ⟨rfl, rfl, rfl, by decide +kernel, rfl, by decide +kernel, by decide +kernel⟩
abbrev st__law_solved : Stmt := topS 45
abbrev nm__law_solved : List Str := ["_law_rows", "_law_bounds", "_law_e"]
theorem sc__law_solved : FnScope nm__law_solved ["_law_rows", "_law_bounds"] (defScope st__law_solved) := ⟨rfl, rfl, rfl, by decide +kernel, rfl, by decide +kernel, by decide +kernel⟩
abbrev st__law_ranked : Stmt := topS 46
abbrev nm__law_ranked : List Str := ["_law_rows", "_law_e"]
theorem sc__law_ranked : FnScope nm__law_ranked ["_law_rows"] (defScope st__law_ranked) := ⟨rfl, rfl, rfl, by decide +kernel, rfl, by decide +kernel, by decide +kernel⟩
abbrev st_law : Stmt := topS 47
abbrev nm_law : List Str := ["_law_script", "_law_deck_here", "_law_rows", "_law_columns", "_law_values", "_law_bounds", "_law_factors", "_law_told", "_law_due", "_law_wide", "_law_tall", "_law_ragged", "_law_cases", "_law_case", "_law_column", "_law_row", "_law_value", "_law_k"]
theorem sc_law : FnScope nm_law ["_law_script"] (defScope st_law) := ⟨rfl, rfl, rfl, by decide +kernel, rfl, by decide +kernel, by decide +kernel⟩
abbrev st_InvalidSystem : Stmt := inClass (topS 3) 0
theorem sc_InvalidSystem : FnScope ["self", "reason"] ["self", "reason"] (defScope st_InvalidSystem) := ⟨rfl, rfl, rfl, by decide +kernel, rfl, by decide +kernel, by decide +kernel⟩
abbrev st_TooLarge : Stmt := inClass (topS 4) 0
theorem sc_TooLarge : FnScope ["self", "limit"] ["self", "limit"] (defScope st_TooLarge) := ⟨rfl, rfl, rfl, by decide +kernel, rfl, by decide +kernel, by decide +kernel⟩
def fl : List (Str × Nat) := []
def ms : List (Str × List (Nat × Nat × Nat × List D)) := []
def pg : Pg := ⟨[⟨nm_make, defScope st_make, defBody st_make⟩, ⟨nm_add, defScope st_add, defBody st_add⟩, ⟨nm_negate, defScope st_negate, defBody st_negate⟩, ⟨nm_multiply, defScope st_multiply, defBody st_multiply⟩, ⟨nm_divide, defScope st_divide, defBody st_divide⟩, ⟨nm_compare, defScope st_compare, defBody st_compare⟩, ⟨nm_sign, defScope st_sign, defBody st_sign⟩, ⟨nm_total, defScope st_total, defBody st_total⟩, ⟨nm_dot, defScope st_dot, defBody st_dot⟩, ⟨nm_column_count, defScope st_column_count, defBody st_column_count⟩, ⟨nm_check_rows, defScope st_check_rows, defBody st_check_rows⟩, ⟨nm_check_system, defScope st_check_system, defBody st_check_system⟩, ⟨nm_unit_row, defScope st_unit_row, defBody st_unit_row⟩, ⟨nm_plus_multiple, defScope st_plus_multiple, defBody st_plus_multiple⟩, ⟨nm_first_row_with, defScope st_first_row_with, defBody st_first_row_with⟩, ⟨nm_eliminated, defScope st_eliminated, defBody st_eliminated⟩, ⟨nm_rank, defScope st_rank, defBody st_rank⟩, ⟨nm_solve, defScope st_solve, defBody st_solve⟩, ⟨nm_is_solution, defScope st_is_solution, defBody st_is_solution⟩, ⟨nm_is_contradiction, defScope st_is_contradiction, defBody st_is_contradiction⟩, ⟨nm__law_deck, defScope st__law_deck, defBody st__law_deck⟩, ⟨nm__law_draw, defScope st__law_draw, defBody st__law_draw⟩, ⟨nm__law_same, defScope st__law_same, defBody st__law_same⟩, ⟨nm__law_gcd, defScope st__law_gcd, defBody st__law_gcd⟩, ⟨nm__law_ratio, defScope st__law_ratio, defBody st__law_ratio⟩, ⟨nm__law_add, defScope st__law_add, defBody st__law_add⟩, ⟨nm__law_times, defScope st__law_times, defBody st__law_times⟩, ⟨nm__law_total, defScope st__law_total, defBody st__law_total⟩, ⟨nm__law_dot, defScope st__law_dot, defBody st__law_dot⟩, ⟨nm__law_small, defScope st__law_small, defBody st__law_small⟩, ⟨nm__law_system, defScope st__law_system, defBody st__law_system⟩, ⟨nm__law_sums, defScope st__law_sums, defBody st__law_sums⟩, ⟨nm__law_kind, defScope st__law_kind, defBody st__law_kind⟩, ⟨nm__law_solved, defScope st__law_solved, defBody st__law_solved⟩, ⟨nm__law_ranked, defScope st__law_ranked, defBody st__law_ranked⟩, ⟨nm_law, defScope st_law, defBody st_law⟩], gl, fl, ms, subT, isiT, xaT, 1000000000⟩
theorem E_make (T : Nat → FD) (J : HX) : pg.run T J ⟨nm_make, defScope st_make, defBody st_make⟩ = P_make := by rfl
theorem U_make (k : Nat) : pg.tbl (k + 1) 0 = P_make := E_make _ _
theorem E_add (T : Nat → FD) (J : HX) : pg.run T J ⟨nm_add, defScope st_add, defBody st_add⟩ = P_add (T 0) := by rfl
theorem U_add (k : Nat) : pg.tbl (k + 1) 1 = P_add (pg.tbl k 0) := E_add _ _
theorem E_negate (T : Nat → FD) (J : HX) : pg.run T J ⟨nm_negate, defScope st_negate, defBody st_negate⟩ = P_negate := by rfl
theorem U_negate (k : Nat) : pg.tbl (k + 1) 2 = P_negate := E_negate _ _
theorem E_multiply (T : Nat → FD) (J : HX) : pg.run T J ⟨nm_multiply, defScope st_multiply, defBody st_multiply⟩ = P_multiply (T 0) := by rfl
theorem U_multiply (k : Nat) : pg.tbl (k + 1) 3 = P_multiply (pg.tbl k 0) := E_multiply _ _
theorem E_divide (T : Nat → FD) (J : HX) : pg.run T J ⟨nm_divide, defScope st_divide, defBody st_divide⟩ = P_divide (T 0) := by rfl
theorem U_divide (k : Nat) : pg.tbl (k + 1) 4 = P_divide (pg.tbl k 0) := E_divide _ _
theorem E_compare (T : Nat → FD) (J : HX) : pg.run T J ⟨nm_compare, defScope st_compare, defBody st_compare⟩ = P_compare := by rfl
theorem U_compare (k : Nat) : pg.tbl (k + 1) 5 = P_compare := E_compare _ _
theorem E_sign (T : Nat → FD) (J : HX) : pg.run T J ⟨nm_sign, defScope st_sign, defBody st_sign⟩ = P_sign (T 5) := by rfl
theorem U_sign (k : Nat) : pg.tbl (k + 1) 6 = P_sign (pg.tbl k 5) := E_sign _ _
theorem E_total (T : Nat → FD) (J : HX) : pg.run T J ⟨nm_total, defScope st_total, defBody st_total⟩ = P_total (T 1) := by rfl
theorem U_total (k : Nat) : pg.tbl (k + 1) 7 = P_total (pg.tbl k 1) := E_total _ _
theorem E_dot (T : Nat → FD) (J : HX) : pg.run T J ⟨nm_dot, defScope st_dot, defBody st_dot⟩ = P_dot (T 3) (T 7) := by rfl
theorem U_dot (k : Nat) : pg.tbl (k + 1) 8 = P_dot (pg.tbl k 3) (pg.tbl k 7) := E_dot _ _
theorem E_column_count (T : Nat → FD) (J : HX) : pg.run T J ⟨nm_column_count, defScope st_column_count, defBody st_column_count⟩ = P_column_count := by rfl
theorem U_column_count (k : Nat) : pg.tbl (k + 1) 9 = P_column_count := E_column_count _ _
theorem E_check_rows (T : Nat → FD) (J : HX) : pg.run T J ⟨nm_check_rows, defScope st_check_rows, defBody st_check_rows⟩ = P_check_rows_2 (T 9) := by rfl
theorem U_check_rows (k : Nat) : pg.tbl (k + 1) 10 = P_check_rows_2 (pg.tbl k 9) := E_check_rows _ _
theorem E_check_system (T : Nat → FD) (J : HX) : pg.run T J ⟨nm_check_system, defScope st_check_system, defBody st_check_system⟩ = P_check_system_2 (T 10) (T 9) := by rfl
theorem U_check_system (k : Nat) : pg.tbl (k + 1) 11 = P_check_system_2 (pg.tbl k 10) (pg.tbl k 9) := E_check_system _ _
theorem E_unit_row (T : Nat → FD) (J : HX) : pg.run T J ⟨nm_unit_row, defScope st_unit_row, defBody st_unit_row⟩ = P_unit_row := by rfl
theorem U_unit_row (k : Nat) : pg.tbl (k + 1) 12 = P_unit_row := E_unit_row _ _
theorem E_plus_multiple (T : Nat → FD) (J : HX) : pg.run T J ⟨nm_plus_multiple, defScope st_plus_multiple, defBody st_plus_multiple⟩ = P_plus_multiple (T 1) (T 3) := by rfl
theorem U_plus_multiple (k : Nat) : pg.tbl (k + 1) 13 = P_plus_multiple (pg.tbl k 1) (pg.tbl k 3) := E_plus_multiple _ _
theorem E_first_row_with (T : Nat → FD) (J : HX) : pg.run T J ⟨nm_first_row_with, defScope st_first_row_with, defBody st_first_row_with⟩ = P_first_row_with (T 6) := by rfl
theorem U_first_row_with (k : Nat) : pg.tbl (k + 1) 14 = P_first_row_with (pg.tbl k 6) := E_first_row_with _ _
theorem E_eliminated (T : Nat → FD) (J : HX) : pg.run T J ⟨nm_eliminated, defScope st_eliminated, defBody st_eliminated⟩ = P_eliminated (T 4) (T 14) (T 3) (T 2) (T 13) (T 6) := by rfl
theorem U_eliminated (k : Nat) : pg.tbl (k + 1) 15 = P_eliminated (pg.tbl k 4) (pg.tbl k 14) (pg.tbl k 3) (pg.tbl k 2) (pg.tbl k 13) (pg.tbl k 6) := E_eliminated _ _
theorem E_rank (T : Nat → FD) (J : HX) : pg.run T J ⟨nm_rank, defScope st_rank, defBody st_rank⟩ = P_rank (T 10) (T 9) (T 15) := by rfl
theorem U_rank (k : Nat) : pg.tbl (k + 1) 16 = P_rank (pg.tbl k 10) (pg.tbl k 9) (pg.tbl k 15) := E_rank _ _
theorem E_solve (T : Nat → FD) (J : HX) : pg.run T J ⟨nm_solve, defScope st_solve, defBody st_solve⟩ = P_solve (T 11) (T 9) (T 15) (T 6) (T 12) := by rfl
theorem U_solve (k : Nat) : pg.tbl (k + 1) 17 = P_solve (pg.tbl k 11) (pg.tbl k 9) (pg.tbl k 15) (pg.tbl k 6) (pg.tbl k 12) := E_solve _ _
theorem E_is_solution (T : Nat → FD) (J : HX) : pg.run T J ⟨nm_is_solution, defScope st_is_solution, defBody st_is_solution⟩ = P_is_solution (T 9) (T 8) := by rfl
theorem U_is_solution (k : Nat) : pg.tbl (k + 1) 18 = P_is_solution (pg.tbl k 9) (pg.tbl k 8) := E_is_solution _ _
theorem E_is_contradiction (T : Nat → FD) (J : HX) : pg.run T J ⟨nm_is_contradiction, defScope st_is_contradiction, defBody st_is_contradiction⟩ = P_is_contradiction (T 9) (T 8) (T 6) := by rfl
theorem U_is_contradiction (k : Nat) : pg.tbl (k + 1) 19 = P_is_contradiction (pg.tbl k 9) (pg.tbl k 8) (pg.tbl k 6) := E_is_contradiction _ _
theorem E__law_deck (T : Nat → FD) (J : HX) : pg.run T J ⟨nm__law_deck, defScope st__law_deck, defBody st__law_deck⟩ = P__law_deck := by rfl
theorem U__law_deck (k : Nat) : pg.tbl (k + 1) 20 = P__law_deck := E__law_deck _ _
theorem E__law_draw (T : Nat → FD) (J : HX) : pg.run T J ⟨nm__law_draw, defScope st__law_draw, defBody st__law_draw⟩ = P__law_draw := by rfl
theorem U__law_draw (k : Nat) : pg.tbl (k + 1) 21 = P__law_draw := E__law_draw _ _
theorem E__law_same (T : Nat → FD) (J : HX) : pg.run T J ⟨nm__law_same, defScope st__law_same, defBody st__law_same⟩ = P__law_same (T 22) := by rfl
theorem U__law_same (k : Nat) : pg.tbl (k + 1) 22 = P__law_same (pg.tbl k 22) := E__law_same _ _
theorem E__law_gcd (T : Nat → FD) (J : HX) : pg.run T J ⟨nm__law_gcd, defScope st__law_gcd, defBody st__law_gcd⟩ = P__law_gcd := by rfl
theorem U__law_gcd (k : Nat) : pg.tbl (k + 1) 23 = P__law_gcd := E__law_gcd _ _
theorem E__law_ratio (T : Nat → FD) (J : HX) : pg.run T J ⟨nm__law_ratio, defScope st__law_ratio, defBody st__law_ratio⟩ = P__law_ratio (T 23) := by rfl
theorem U__law_ratio (k : Nat) : pg.tbl (k + 1) 24 = P__law_ratio (pg.tbl k 23) := E__law_ratio _ _
theorem E__law_add (T : Nat → FD) (J : HX) : pg.run T J ⟨nm__law_add, defScope st__law_add, defBody st__law_add⟩ = P__law_add (T 24) := by rfl
theorem U__law_add (k : Nat) : pg.tbl (k + 1) 25 = P__law_add (pg.tbl k 24) := E__law_add _ _
theorem E__law_times (T : Nat → FD) (J : HX) : pg.run T J ⟨nm__law_times, defScope st__law_times, defBody st__law_times⟩ = P__law_times (T 24) := by rfl
theorem U__law_times (k : Nat) : pg.tbl (k + 1) 26 = P__law_times (pg.tbl k 24) := E__law_times _ _
theorem E__law_total (T : Nat → FD) (J : HX) : pg.run T J ⟨nm__law_total, defScope st__law_total, defBody st__law_total⟩ = P__law_total (T 25) := by rfl
theorem U__law_total (k : Nat) : pg.tbl (k + 1) 27 = P__law_total (pg.tbl k 25) := E__law_total _ _
theorem E__law_dot (T : Nat → FD) (J : HX) : pg.run T J ⟨nm__law_dot, defScope st__law_dot, defBody st__law_dot⟩ = P__law_dot (T 26) (T 27) := by rfl
theorem U__law_dot (k : Nat) : pg.tbl (k + 1) 28 = P__law_dot (pg.tbl k 26) (pg.tbl k 27) := E__law_dot _ _
theorem E__law_small (T : Nat → FD) (J : HX) : pg.run T J ⟨nm__law_small, defScope st__law_small, defBody st__law_small⟩ = P__law_small (T 21) (T 24) := by rfl
theorem U__law_small (k : Nat) : pg.tbl (k + 1) 29 = P__law_small (pg.tbl k 21) (pg.tbl k 24) := E__law_small _ _
theorem E__law_system (T : Nat → FD) (J : HX) : pg.run T J ⟨nm__law_system, defScope st__law_system, defBody st__law_system⟩ = P__law_system (T 21) (T 29) (T 26) := by rfl
theorem U__law_system (k : Nat) : pg.tbl (k + 1) 30 = P__law_system (pg.tbl k 21) (pg.tbl k 29) (pg.tbl k 26) := E__law_system _ _
theorem E__law_sums (T : Nat → FD) (J : HX) : pg.run T J ⟨nm__law_sums, defScope st__law_sums, defBody st__law_sums⟩ = P__law_sums (T 28) := by rfl
theorem U__law_sums (k : Nat) : pg.tbl (k + 1) 31 = P__law_sums (pg.tbl k 28) := E__law_sums _ _
theorem E__law_solved (T : Nat → FD) (J : HX) : pg.run T J ⟨nm__law_solved, defScope st__law_solved, defBody st__law_solved⟩ = P__law_solved subT (T 17) (J.2 32) := by rfl
theorem U__law_solved (k : Nat) : pg.tbl (k + 1) 33 = P__law_solved subT (pg.tbl k 17) ((pg.hx k).2 32) := E__law_solved _ _
theorem E__law_ranked (T : Nat → FD) (J : HX) : pg.run T J ⟨nm__law_ranked, defScope st__law_ranked, defBody st__law_ranked⟩ = P__law_ranked subT (T 16) (J.2 32) := by rfl
theorem U__law_ranked (k : Nat) : pg.tbl (k + 1) 34 = P__law_ranked subT (pg.tbl k 16) ((pg.hx k).2 32) := E__law_ranked _ _
theorem E_law (T : Nat → FD) (J : HX) : pg.run T J ⟨nm_law, defScope st_law, defBody st_law⟩ = P_law_48 (T 20) (T 28) (T 21) (T 34) (T 22) (T 29) (T 33) (T 31) (T 30) (T 26) (T 19) (T 18) := by rfl
theorem U_law (k : Nat) : pg.tbl (k + 1) 35 = P_law_48 (pg.tbl k 20) (pg.tbl k 28) (pg.tbl k 21) (pg.tbl k 34) (pg.tbl k 22) (pg.tbl k 29) (pg.tbl k 33) (pg.tbl k 31) (pg.tbl k 30) (pg.tbl k 26) (pg.tbl k 19) (pg.tbl k 18) := E_law _ _
theorem EX__law_kind (J : HX) (y : Xc) : pg.runX J ⟨nm__law_kind, defScope st__law_kind, defBody st__law_kind⟩ y = P_X__law_kind isiT y := by rfl
theorem UX__law_kind (k : Nat) : (pg.hx (k + 1)).2 32 = P_X__law_kind isiT := funext fun y => EX__law_kind _ y
end Lw
namespace Lw
open PySem L2 Mn
theorem t_Deck__law_deck (k : Nat) : Deck (pg.tbl (k + 1) 20) := by rw [U__law_deck]; exact deck_ok 
theorem t_Gcd__law_gcd (k : Nat) : Gcd (pg.tbl (k + 1) 23) := by rw [U__law_gcd]; exact gcd_ok 
theorem t_LRatio__law_ratio (k : Nat) : LRatio (pg.tbl (k + 2) 24) := by rw [U__law_ratio]; exact ratio_ok (t_Gcd__law_gcd (k + 0))
theorem t_LTimes__law_times (k : Nat) : LTimes (pg.tbl (k + 3) 26) := by rw [U__law_times]; exact ltimes_ok (t_LRatio__law_ratio (k + 0))
theorem t_LAddK__law_add (k : Nat) : LAddK (pg.tbl (k + 3) 25) := by rw [U__law_add]; exact laddk_ok (t_LRatio__law_ratio (k + 0))
theorem t_LTotal__law_total (k : Nat) : LTotal (pg.tbl (k + 4) 27) := by rw [U__law_total]; exact ltotal_ok (t_LAddK__law_add (k + 0))
theorem t_LDot__law_dot (k : Nat) : LDot (pg.tbl (k + 5) 28) := by rw [U__law_dot]; exact ldot_ok (t_LTimes__law_times (k + 1)) (t_LTotal__law_total (k + 0))
theorem t_Draw__law_draw (k : Nat) : Draw (pg.tbl (k + 1) 21) := by rw [U__law_draw]; exact draw_ok 
theorem t_PColC_column_count (k : Nat) : PColC (pg.tbl (k + 1) 9) := by rw [U_column_count]; exact pcolc_ok 
theorem t_PChkRB_check_rows (k : Nat) : PChkRB (pg.tbl (k + 2) 10) := by rw [U_check_rows]; exact pchkrb_ok (t_PColC_column_count (k + 0))
theorem t_PRankB_rank (k : Nat) : PRankB (pg.tbl (k + 3) 16) := by rw [U_rank]; exact prankb_ok (t_PChkRB_check_rows (k + 0))
theorem tX_LKind_isiT__law_kind (k : Nat) : LKind isiT ((pg.hx (k + 1)).2 32) := by rw [UX__law_kind]; exact lkind_ok 
theorem t_LRnk_subT_isiT__law_ranked (k : Nat) : LRnk subT isiT (pg.tbl (k + 4) 34) := by rw [U__law_ranked]; exact lrnk_ok (t_PRankB_rank (k + 0)) (tX_LKind_isiT__law_kind (k + 2))
theorem t_same : ∀ (j k : Nat), Same j (pg.tbl (k + j + 1) 22)
  | 0, k => by rw [U__law_same]; exact same_ok 0 (fun j h => by omega)
  | j + 1, k => by rw [U__law_same]; exact same_ok (j + 1) (fun i h => by cases h; exact t_same j k)
theorem t_same_1 (k : Nat) : Same 1 (pg.tbl (k + 2) 22) := t_same 1 k
theorem t_LSmall__law_small (k : Nat) : LSmall (pg.tbl (k + 3) 29) := by rw [U__law_small]; exact lsmall_ok (t_Draw__law_draw (k + 1)) (t_LRatio__law_ratio (k + 0))
theorem t_PChkSB_check_system (k : Nat) : PChkSB (pg.tbl (k + 3) 11) := by rw [U_check_system]; exact pchksb_ok (t_PChkRB_check_rows (k + 0)) (t_PColC_column_count (k + 1))
theorem t_PSolB_solve (k : Nat) : PSolB (pg.tbl (k + 4) 17) := by rw [U_solve]; exact psolb_ok (t_PChkSB_check_system (k + 0))
theorem t_PChkR_check_rows (k : Nat) : PChkR (pg.tbl (k + 2) 10) := by rw [U_check_rows]; exact pchkr_ok (t_PColC_column_count (k + 0))
theorem t_PChkS_check_system (k : Nat) : PChkS (pg.tbl (k + 3) 11) := by rw [U_check_system]; exact pchks_ok (t_PChkR_check_rows (k + 0)) (t_PColC_column_count (k + 1))
theorem t_Make_make (k : Nat) : Make (pg.tbl (k + 1) 0) := by rw [U_make]; exact make_ok 
theorem t_Div_divide (k : Nat) : Div (pg.tbl (k + 2) 4) := by rw [U_divide]; exact divide_ok (t_Make_make (k + 0))
theorem t_Cmp_compare (k : Nat) : Cmp (pg.tbl (k + 1) 5) := by rw [U_compare]; exact compare_ok 
theorem t_Sign_sign (k : Nat) : Sign (pg.tbl (k + 2) 6) := by rw [U_sign]; exact sign_ok (t_Cmp_compare (k + 0))
theorem t_PFndR_first_row_with (k : Nat) : PFndR (pg.tbl (k + 3) 14) := by rw [U_first_row_with]; exact pfndr_ok (t_Sign_sign (k + 0))
theorem t_Mul_multiply (k : Nat) : Mul (pg.tbl (k + 2) 3) := by rw [U_multiply]; exact multiply_ok (t_Make_make (k + 0))
theorem t_Neg_negate (k : Nat) : Neg (pg.tbl (k + 1) 2) := by rw [U_negate]; exact negate_ok 
theorem t_Add_add (k : Nat) : Add (pg.tbl (k + 2) 1) := by rw [U_add]; exact add_ok (t_Make_make (k + 0))
theorem t_PPlm_plus_multiple (k : Nat) : PPlm (pg.tbl (k + 3) 13) := by rw [U_plus_multiple]; exact pplm_ok (t_Add_add (k + 0)) (t_Mul_multiply (k + 0))
theorem t_PElim_eliminated (k : Nat) : PElim (pg.tbl (k + 4) 15) := by rw [U_eliminated]; exact pelim_ok (t_Div_divide (k + 1)) (t_PFndR_first_row_with (k + 0)) (t_Mul_multiply (k + 1)) (t_Neg_negate (k + 2)) (t_PPlm_plus_multiple (k + 0)) (t_Sign_sign (k + 1))
theorem t_PUnit_unit_row (k : Nat) : PUnit (pg.tbl (k + 1) 12) := by rw [U_unit_row]; exact punit_ok 
theorem t_PSolveS_solve (k : Nat) : PSolveS (pg.tbl (k + 5) 17) := by rw [U_solve]; exact psolves_ok (t_PChkS_check_system (k + 1)) (t_PColC_column_count (k + 3)) (t_PElim_eliminated (k + 0)) (t_Sign_sign (k + 2)) (t_PUnit_unit_row (k + 3))
theorem t_LSlv_subT_isiT__law_solved (k : Nat) : LSlv subT isiT (pg.tbl (k + 6) 33) := by rw [U__law_solved]; exact lslv_ok (t_PSolB_solve (k + 1)) (t_PSolveS_solve (k + 0)) (tX_LKind_isiT__law_kind (k + 4))
theorem t_LSums__law_sums (k : Nat) : LSums (pg.tbl (k + 6) 31) := by rw [U__law_sums]; exact lsums_ok (t_LDot__law_dot (k + 0))
theorem t_LSysO__law_system (k : Nat) : LSysO (pg.tbl (k + 4) 30) := by rw [U__law_system]; exact lsysO_ok (t_Draw__law_draw (k + 2)) (t_LSmall__law_small (k + 0)) (t_LTimes__law_times (k + 0))
theorem t_Total_total (k : Nat) : Total (pg.tbl (k + 3) 7) := by rw [U_total]; exact total_ok (t_Add_add (k + 0))
theorem t_Dot_dot (k : Nat) : Dot (pg.tbl (k + 4) 8) := by rw [U_dot]; exact dot_ok (t_Mul_multiply (k + 1)) (t_Total_total (k + 0))
theorem t_PIsCon_is_contradiction (k : Nat) : PIsCon (pg.tbl (k + 5) 19) := by rw [U_is_contradiction]; exact piscon_ok (t_PColC_column_count (k + 3)) (t_Dot_dot (k + 0)) (t_Sign_sign (k + 2))
theorem t_PIsSol_is_solution (k : Nat) : PIsSol (pg.tbl (k + 5) 18) := by rw [U_is_solution]; exact pissol_ok (t_PColC_column_count (k + 3)) (t_Dot_dot (k + 0))
theorem law_true (ns : List Int) (h1 : ns.length ≤ 63) (h2 : ∀ z ∈ ns, Builtin.Int.intBits z ≤ 1048576) : ∃ h, pg.tbl 7 35 [.ref 0] [.frz (ns.map .int)] = .ok (.bl true) h := by
  rw [U_law]
  exact law_of (law06_ok (t_Deck__law_deck 5) (t_LDot__law_dot 1) (t_Draw__law_draw 5) (t_LRnk_subT_isiT__law_ranked 2) (t_same_1 4) (t_LSmall__law_small 3) (t_LSlv_subT_isiT__law_solved 0) (t_LSums__law_sums 0) (t_LSysO__law_system 2) (t_LTimes__law_times 3) (t_PIsCon_is_contradiction 1) (t_PIsSol_is_solution 1) rfl rfl ⟨rfl,rfl,rfl,rfl⟩ ns h1 fun z hz => bits_of (h2 z hz))
end Lw
namespace Lw
open PySem L2 Mn
def cvL (C0 C4 C9 C16 : Addr) : Nat → Value  | 0 => .ref C0 | 4 => .ref C4 | 9 => .ref C9 | 16 => .ref C16  | _ => .none
theorem pg_mk {K : PySem.W.Frag} {h : Heap} {mg : Str → Option Value} (X : K.In h) (G : h.Ns mainGlobals mg)
    {f0 : Addr} {od0 an0 : Option Addr} {sl0 : Array (Option Value)} {oc0 kV0 dc0 pm0 cd0 ct0 : Value}
    {T0 : Addr} {oT0 : Value} {dT0 : Option Addr} {nT0 : Nat} {sT0 : Array (Option Value)} {tT0_0 : Tok}
    {f1 : Addr} {od1 an1 : Option Addr} {sl1 : Array (Option Value)} {oc1 kV1 dc1 pm1 cd1 ct1 : Value}
    {f2 : Addr} {od2 an2 : Option Addr} {sl2 : Array (Option Value)} {oc2 kV2 dc2 pm2 cd2 ct2 : Value}
    {f3 : Addr} {od3 an3 : Option Addr} {sl3 : Array (Option Value)} {oc3 kV3 dc3 pm3 cd3 ct3 : Value}
    {f4 : Addr} {od4 an4 : Option Addr} {sl4 : Array (Option Value)} {oc4 kV4 dc4 pm4 cd4 ct4 : Value}
    {f5 : Addr} {od5 an5 : Option Addr} {sl5 : Array (Option Value)} {oc5 kV5 dc5 pm5 cd5 ct5 : Value}
    {f6 : Addr} {od6 an6 : Option Addr} {sl6 : Array (Option Value)} {oc6 kV6 dc6 pm6 cd6 ct6 : Value}
    {f7 : Addr} {od7 an7 : Option Addr} {sl7 : Array (Option Value)} {oc7 kV7 dc7 pm7 cd7 ct7 : Value}
    {f8 : Addr} {od8 an8 : Option Addr} {sl8 : Array (Option Value)} {oc8 kV8 dc8 pm8 cd8 ct8 : Value}
    {f9 : Addr} {od9 an9 : Option Addr} {sl9 : Array (Option Value)} {oc9 kV9 dc9 pm9 cd9 ct9 : Value}
    {f10 : Addr} {od10 an10 : Option Addr} {sl10 : Array (Option Value)} {oc10 kV10 dc10 pm10 cd10 ct10 : Value}
    {f11 : Addr} {od11 an11 : Option Addr} {sl11 : Array (Option Value)} {oc11 kV11 dc11 pm11 cd11 ct11 : Value}
    {f12 : Addr} {od12 an12 : Option Addr} {sl12 : Array (Option Value)} {oc12 kV12 dc12 pm12 cd12 ct12 : Value}
    {f13 : Addr} {od13 an13 : Option Addr} {sl13 : Array (Option Value)} {oc13 kV13 dc13 pm13 cd13 ct13 : Value}
    {f14 : Addr} {od14 an14 : Option Addr} {sl14 : Array (Option Value)} {oc14 kV14 dc14 pm14 cd14 ct14 : Value}
    {f15 : Addr} {od15 an15 : Option Addr} {sl15 : Array (Option Value)} {oc15 kV15 dc15 pm15 cd15 ct15 : Value}
    {f16 : Addr} {od16 an16 : Option Addr} {sl16 : Array (Option Value)} {oc16 kV16 dc16 pm16 cd16 ct16 : Value}
    {f17 : Addr} {od17 an17 : Option Addr} {sl17 : Array (Option Value)} {oc17 kV17 dc17 pm17 cd17 ct17 : Value}
    {f18 : Addr} {od18 an18 : Option Addr} {sl18 : Array (Option Value)} {oc18 kV18 dc18 pm18 cd18 ct18 : Value}
    {f19 : Addr} {od19 an19 : Option Addr} {sl19 : Array (Option Value)} {oc19 kV19 dc19 pm19 cd19 ct19 : Value}
    {f20 : Addr} {od20 an20 : Option Addr} {sl20 : Array (Option Value)} {oc20 kV20 dc20 pm20 cd20 ct20 : Value}
    {f21 : Addr} {od21 an21 : Option Addr} {sl21 : Array (Option Value)} {oc21 kV21 dc21 pm21 cd21 ct21 : Value}
    {f22 : Addr} {od22 an22 : Option Addr} {sl22 : Array (Option Value)} {oc22 kV22 dc22 pm22 cd22 ct22 : Value}
    {f23 : Addr} {od23 an23 : Option Addr} {sl23 : Array (Option Value)} {oc23 kV23 dc23 pm23 cd23 ct23 : Value}
    {f24 : Addr} {od24 an24 : Option Addr} {sl24 : Array (Option Value)} {oc24 kV24 dc24 pm24 cd24 ct24 : Value}
    {f25 : Addr} {od25 an25 : Option Addr} {sl25 : Array (Option Value)} {oc25 kV25 dc25 pm25 cd25 ct25 : Value}
    {f26 : Addr} {od26 an26 : Option Addr} {sl26 : Array (Option Value)} {oc26 kV26 dc26 pm26 cd26 ct26 : Value}
    {f27 : Addr} {od27 an27 : Option Addr} {sl27 : Array (Option Value)} {oc27 kV27 dc27 pm27 cd27 ct27 : Value}
    {f28 : Addr} {od28 an28 : Option Addr} {sl28 : Array (Option Value)} {oc28 kV28 dc28 pm28 cd28 ct28 : Value}
    {f29 : Addr} {od29 an29 : Option Addr} {sl29 : Array (Option Value)} {oc29 kV29 dc29 pm29 cd29 ct29 : Value}
    {f30 : Addr} {od30 an30 : Option Addr} {sl30 : Array (Option Value)} {oc30 kV30 dc30 pm30 cd30 ct30 : Value}
    {f31 : Addr} {od31 an31 : Option Addr} {sl31 : Array (Option Value)} {oc31 kV31 dc31 pm31 cd31 ct31 : Value}
    {f32 : Addr} {od32 an32 : Option Addr} {sl32 : Array (Option Value)} {oc32 kV32 dc32 pm32 cd32 ct32 : Value}
    {f33 : Addr} {od33 an33 : Option Addr} {sl33 : Array (Option Value)} {oc33 kV33 dc33 pm33 cd33 ct33 : Value}
    {f34 : Addr} {od34 an34 : Option Addr} {sl34 : Array (Option Value)} {oc34 kV34 dc34 pm34 cd34 ct34 : Value}
    {f35 : Addr} {od35 an35 : Option Addr} {sl35 : Array (Option Value)} {oc35 kV35 dc35 pm35 cd35 ct35 : Value}
    {C0 : Addr}
    {C4 : Addr}
    {N4 xf4 : Addr} {xn4 xq4 : Str} {xb4 xm4 xs4 : List Value} {xl4 : List Str} {xab4 : Bool} {xco4 : Option Bool} {xd4 xo4 xan4 : Option Addr} {x0k4 x1k4 x2k4 x3k4 x5k4 : Option Value} {xoc4 xkV4 xdc4 xpm4 xcd4 xct4 : Value} {xsl4 : Array (Option Value)}
    {C9 : Addr}
    {N9 xf9 : Addr} {xn9 xq9 : Str} {xb9 xm9 xs9 : List Value} {xl9 : List Str} {xab9 : Bool} {xco9 : Option Bool} {xd9 xo9 xan9 : Option Addr} {x0k9 x1k9 x2k9 x3k9 x5k9 : Option Value} {xoc9 xkV9 xdc9 xpm9 xcd9 xct9 : Value} {xsl9 : Array (Option Value)}
    {C16 : Addr}
    {V_ZERO : Addr} {dV_ZERO : Option Addr} {nV_ZERO : Nat} {sV_ZERO : Array (Option Value)} {tV_ZERO_0 : Tok} {tV_ZERO_1 : Tok}
    {V_ONE : Addr} {dV_ONE : Option Addr} {nV_ONE : Nat} {sV_ONE : Array (Option Value)} {tV_ONE_0 : Tok} {tV_ONE_1 : Tok}
    {tV_MOST : Tok}
    (a0 : PySem.W.nsIn K mainGlobals "make" = some (some (.ref f0)))
    (l0 : K.lookup f0 = some ⟨oc0, od0, .func (PySem.W.fnOf "make" "make" (defArgs st_make) (defBody st_make) (defScope st_make) (.ref T0) kV0 dc0 pm0 an0 cd0 ct0), sl0⟩)
    (c0 : PySem.W.codeIn K cd0 "make" = true)
    (k0 : PySem.W.keepIn K (.ref f0) = true)
    (lT0 : K.lookup T0 = some ⟨oT0, dT0, .seq #[.int 1 tT0_0] nT0, sT0⟩)
    (a1 : PySem.W.nsIn K mainGlobals "add" = some (some (.ref f1)))
    (l1 : K.lookup f1 = some ⟨oc1, od1, .func (PySem.W.fnOf "add" "add" (defArgs st_add) (defBody st_add) (defScope st_add) .none kV1 dc1 pm1 an1 cd1 ct1), sl1⟩)
    (c1 : PySem.W.codeIn K cd1 "add" = true)
    (k1 : PySem.W.keepIn K (.ref f1) = true)
    (a2 : PySem.W.nsIn K mainGlobals "negate" = some (some (.ref f2)))
    (l2 : K.lookup f2 = some ⟨oc2, od2, .func (PySem.W.fnOf "negate" "negate" (defArgs st_negate) (defBody st_negate) (defScope st_negate) .none kV2 dc2 pm2 an2 cd2 ct2), sl2⟩)
    (c2 : PySem.W.codeIn K cd2 "negate" = true)
    (k2 : PySem.W.keepIn K (.ref f2) = true)
    (a3 : PySem.W.nsIn K mainGlobals "multiply" = some (some (.ref f3)))
    (l3 : K.lookup f3 = some ⟨oc3, od3, .func (PySem.W.fnOf "multiply" "multiply" (defArgs st_multiply) (defBody st_multiply) (defScope st_multiply) .none kV3 dc3 pm3 an3 cd3 ct3), sl3⟩)
    (c3 : PySem.W.codeIn K cd3 "multiply" = true)
    (k3 : PySem.W.keepIn K (.ref f3) = true)
    (a4 : PySem.W.nsIn K mainGlobals "divide" = some (some (.ref f4)))
    (l4 : K.lookup f4 = some ⟨oc4, od4, .func (PySem.W.fnOf "divide" "divide" (defArgs st_divide) (defBody st_divide) (defScope st_divide) .none kV4 dc4 pm4 an4 cd4 ct4), sl4⟩)
    (c4 : PySem.W.codeIn K cd4 "divide" = true)
    (k4 : PySem.W.keepIn K (.ref f4) = true)
    (a5 : PySem.W.nsIn K mainGlobals "compare" = some (some (.ref f5)))
    (l5 : K.lookup f5 = some ⟨oc5, od5, .func (PySem.W.fnOf "compare" "compare" (defArgs st_compare) (defBody st_compare) (defScope st_compare) .none kV5 dc5 pm5 an5 cd5 ct5), sl5⟩)
    (c5 : PySem.W.codeIn K cd5 "compare" = true)
    (k5 : PySem.W.keepIn K (.ref f5) = true)
    (a6 : PySem.W.nsIn K mainGlobals "sign" = some (some (.ref f6)))
    (l6 : K.lookup f6 = some ⟨oc6, od6, .func (PySem.W.fnOf "sign" "sign" (defArgs st_sign) (defBody st_sign) (defScope st_sign) .none kV6 dc6 pm6 an6 cd6 ct6), sl6⟩)
    (c6 : PySem.W.codeIn K cd6 "sign" = true)
    (k6 : PySem.W.keepIn K (.ref f6) = true)
    (a7 : PySem.W.nsIn K mainGlobals "total" = some (some (.ref f7)))
    (l7 : K.lookup f7 = some ⟨oc7, od7, .func (PySem.W.fnOf "total" "total" (defArgs st_total) (defBody st_total) (defScope st_total) .none kV7 dc7 pm7 an7 cd7 ct7), sl7⟩)
    (c7 : PySem.W.codeIn K cd7 "total" = true)
    (k7 : PySem.W.keepIn K (.ref f7) = true)
    (a8 : PySem.W.nsIn K mainGlobals "dot" = some (some (.ref f8)))
    (l8 : K.lookup f8 = some ⟨oc8, od8, .func (PySem.W.fnOf "dot" "dot" (defArgs st_dot) (defBody st_dot) (defScope st_dot) .none kV8 dc8 pm8 an8 cd8 ct8), sl8⟩)
    (c8 : PySem.W.codeIn K cd8 "dot" = true)
    (k8 : PySem.W.keepIn K (.ref f8) = true)
    (a9 : PySem.W.nsIn K mainGlobals "column_count" = some (some (.ref f9)))
    (l9 : K.lookup f9 = some ⟨oc9, od9, .func (PySem.W.fnOf "column_count" "column_count" (defArgs st_column_count) (defBody st_column_count) (defScope st_column_count) .none kV9 dc9 pm9 an9 cd9 ct9), sl9⟩)
    (c9 : PySem.W.codeIn K cd9 "column_count" = true)
    (k9 : PySem.W.keepIn K (.ref f9) = true)
    (a10 : PySem.W.nsIn K mainGlobals "check_rows" = some (some (.ref f10)))
    (l10 : K.lookup f10 = some ⟨oc10, od10, .func (PySem.W.fnOf "check_rows" "check_rows" (defArgs st_check_rows) (defBody st_check_rows) (defScope st_check_rows) .none kV10 dc10 pm10 an10 cd10 ct10), sl10⟩)
    (c10 : PySem.W.codeIn K cd10 "check_rows" = true)
    (k10 : PySem.W.keepIn K (.ref f10) = true)
    (a11 : PySem.W.nsIn K mainGlobals "check_system" = some (some (.ref f11)))
    (l11 : K.lookup f11 = some ⟨oc11, od11, .func (PySem.W.fnOf "check_system" "check_system" (defArgs st_check_system) (defBody st_check_system) (defScope st_check_system) .none kV11 dc11 pm11 an11 cd11 ct11), sl11⟩)
    (c11 : PySem.W.codeIn K cd11 "check_system" = true)
    (k11 : PySem.W.keepIn K (.ref f11) = true)
    (a12 : PySem.W.nsIn K mainGlobals "unit_row" = some (some (.ref f12)))
    (l12 : K.lookup f12 = some ⟨oc12, od12, .func (PySem.W.fnOf "unit_row" "unit_row" (defArgs st_unit_row) (defBody st_unit_row) (defScope st_unit_row) .none kV12 dc12 pm12 an12 cd12 ct12), sl12⟩)
    (c12 : PySem.W.codeIn K cd12 "unit_row" = true)
    (k12 : PySem.W.keepIn K (.ref f12) = true)
    (a13 : PySem.W.nsIn K mainGlobals "plus_multiple" = some (some (.ref f13)))
    (l13 : K.lookup f13 = some ⟨oc13, od13, .func (PySem.W.fnOf "plus_multiple" "plus_multiple" (defArgs st_plus_multiple) (defBody st_plus_multiple) (defScope st_plus_multiple) .none kV13 dc13 pm13 an13 cd13 ct13), sl13⟩)
    (c13 : PySem.W.codeIn K cd13 "plus_multiple" = true)
    (k13 : PySem.W.keepIn K (.ref f13) = true)
    (a14 : PySem.W.nsIn K mainGlobals "first_row_with" = some (some (.ref f14)))
    (l14 : K.lookup f14 = some ⟨oc14, od14, .func (PySem.W.fnOf "first_row_with" "first_row_with" (defArgs st_first_row_with) (defBody st_first_row_with) (defScope st_first_row_with) .none kV14 dc14 pm14 an14 cd14 ct14), sl14⟩)
    (c14 : PySem.W.codeIn K cd14 "first_row_with" = true)
    (k14 : PySem.W.keepIn K (.ref f14) = true)
    (a15 : PySem.W.nsIn K mainGlobals "eliminated" = some (some (.ref f15)))
    (l15 : K.lookup f15 = some ⟨oc15, od15, .func (PySem.W.fnOf "eliminated" "eliminated" (defArgs st_eliminated) (defBody st_eliminated) (defScope st_eliminated) .none kV15 dc15 pm15 an15 cd15 ct15), sl15⟩)
    (c15 : PySem.W.codeIn K cd15 "eliminated" = true)
    (k15 : PySem.W.keepIn K (.ref f15) = true)
    (a16 : PySem.W.nsIn K mainGlobals "rank" = some (some (.ref f16)))
    (l16 : K.lookup f16 = some ⟨oc16, od16, .func (PySem.W.fnOf "rank" "rank" (defArgs st_rank) (defBody st_rank) (defScope st_rank) .none kV16 dc16 pm16 an16 cd16 ct16), sl16⟩)
    (c16 : PySem.W.codeIn K cd16 "rank" = true)
    (k16 : PySem.W.keepIn K (.ref f16) = true)
    (a17 : PySem.W.nsIn K mainGlobals "solve" = some (some (.ref f17)))
    (l17 : K.lookup f17 = some ⟨oc17, od17, .func (PySem.W.fnOf "solve" "solve" (defArgs st_solve) (defBody st_solve) (defScope st_solve) .none kV17 dc17 pm17 an17 cd17 ct17), sl17⟩)
    (c17 : PySem.W.codeIn K cd17 "solve" = true)
    (k17 : PySem.W.keepIn K (.ref f17) = true)
    (a18 : PySem.W.nsIn K mainGlobals "is_solution" = some (some (.ref f18)))
    (l18 : K.lookup f18 = some ⟨oc18, od18, .func (PySem.W.fnOf "is_solution" "is_solution" (defArgs st_is_solution) (defBody st_is_solution) (defScope st_is_solution) .none kV18 dc18 pm18 an18 cd18 ct18), sl18⟩)
    (c18 : PySem.W.codeIn K cd18 "is_solution" = true)
    (k18 : PySem.W.keepIn K (.ref f18) = true)
    (a19 : PySem.W.nsIn K mainGlobals "is_contradiction" = some (some (.ref f19)))
    (l19 : K.lookup f19 = some ⟨oc19, od19, .func (PySem.W.fnOf "is_contradiction" "is_contradiction" (defArgs st_is_contradiction) (defBody st_is_contradiction) (defScope st_is_contradiction) .none kV19 dc19 pm19 an19 cd19 ct19), sl19⟩)
    (c19 : PySem.W.codeIn K cd19 "is_contradiction" = true)
    (k19 : PySem.W.keepIn K (.ref f19) = true)
    (a20 : PySem.W.nsIn K mainGlobals "_law_deck" = some (some (.ref f20)))
    (l20 : K.lookup f20 = some ⟨oc20, od20, .func (PySem.W.fnOf "_law_deck" "_law_deck" (defArgs st__law_deck) (defBody st__law_deck) (defScope st__law_deck) .none kV20 dc20 pm20 an20 cd20 ct20), sl20⟩)
    (c20 : PySem.W.codeIn K cd20 "_law_deck" = true)
    (k20 : PySem.W.keepIn K (.ref f20) = true)
    (a21 : PySem.W.nsIn K mainGlobals "_law_draw" = some (some (.ref f21)))
    (l21 : K.lookup f21 = some ⟨oc21, od21, .func (PySem.W.fnOf "_law_draw" "_law_draw" (defArgs st__law_draw) (defBody st__law_draw) (defScope st__law_draw) .none kV21 dc21 pm21 an21 cd21 ct21), sl21⟩)
    (c21 : PySem.W.codeIn K cd21 "_law_draw" = true)
    (k21 : PySem.W.keepIn K (.ref f21) = true)
    (a22 : PySem.W.nsIn K mainGlobals "_law_same" = some (some (.ref f22)))
    (l22 : K.lookup f22 = some ⟨oc22, od22, .func (PySem.W.fnOf "_law_same" "_law_same" (defArgs st__law_same) (defBody st__law_same) (defScope st__law_same) .none kV22 dc22 pm22 an22 cd22 ct22), sl22⟩)
    (c22 : PySem.W.codeIn K cd22 "_law_same" = true)
    (k22 : PySem.W.keepIn K (.ref f22) = true)
    (a23 : PySem.W.nsIn K mainGlobals "_law_gcd" = some (some (.ref f23)))
    (l23 : K.lookup f23 = some ⟨oc23, od23, .func (PySem.W.fnOf "_law_gcd" "_law_gcd" (defArgs st__law_gcd) (defBody st__law_gcd) (defScope st__law_gcd) .none kV23 dc23 pm23 an23 cd23 ct23), sl23⟩)
    (c23 : PySem.W.codeIn K cd23 "_law_gcd" = true)
    (k23 : PySem.W.keepIn K (.ref f23) = true)
    (a24 : PySem.W.nsIn K mainGlobals "_law_ratio" = some (some (.ref f24)))
    (l24 : K.lookup f24 = some ⟨oc24, od24, .func (PySem.W.fnOf "_law_ratio" "_law_ratio" (defArgs st__law_ratio) (defBody st__law_ratio) (defScope st__law_ratio) .none kV24 dc24 pm24 an24 cd24 ct24), sl24⟩)
    (c24 : PySem.W.codeIn K cd24 "_law_ratio" = true)
    (k24 : PySem.W.keepIn K (.ref f24) = true)
    (a25 : PySem.W.nsIn K mainGlobals "_law_add" = some (some (.ref f25)))
    (l25 : K.lookup f25 = some ⟨oc25, od25, .func (PySem.W.fnOf "_law_add" "_law_add" (defArgs st__law_add) (defBody st__law_add) (defScope st__law_add) .none kV25 dc25 pm25 an25 cd25 ct25), sl25⟩)
    (c25 : PySem.W.codeIn K cd25 "_law_add" = true)
    (k25 : PySem.W.keepIn K (.ref f25) = true)
    (a26 : PySem.W.nsIn K mainGlobals "_law_times" = some (some (.ref f26)))
    (l26 : K.lookup f26 = some ⟨oc26, od26, .func (PySem.W.fnOf "_law_times" "_law_times" (defArgs st__law_times) (defBody st__law_times) (defScope st__law_times) .none kV26 dc26 pm26 an26 cd26 ct26), sl26⟩)
    (c26 : PySem.W.codeIn K cd26 "_law_times" = true)
    (k26 : PySem.W.keepIn K (.ref f26) = true)
    (a27 : PySem.W.nsIn K mainGlobals "_law_total" = some (some (.ref f27)))
    (l27 : K.lookup f27 = some ⟨oc27, od27, .func (PySem.W.fnOf "_law_total" "_law_total" (defArgs st__law_total) (defBody st__law_total) (defScope st__law_total) .none kV27 dc27 pm27 an27 cd27 ct27), sl27⟩)
    (c27 : PySem.W.codeIn K cd27 "_law_total" = true)
    (k27 : PySem.W.keepIn K (.ref f27) = true)
    (a28 : PySem.W.nsIn K mainGlobals "_law_dot" = some (some (.ref f28)))
    (l28 : K.lookup f28 = some ⟨oc28, od28, .func (PySem.W.fnOf "_law_dot" "_law_dot" (defArgs st__law_dot) (defBody st__law_dot) (defScope st__law_dot) .none kV28 dc28 pm28 an28 cd28 ct28), sl28⟩)
    (c28 : PySem.W.codeIn K cd28 "_law_dot" = true)
    (k28 : PySem.W.keepIn K (.ref f28) = true)
    (a29 : PySem.W.nsIn K mainGlobals "_law_small" = some (some (.ref f29)))
    (l29 : K.lookup f29 = some ⟨oc29, od29, .func (PySem.W.fnOf "_law_small" "_law_small" (defArgs st__law_small) (defBody st__law_small) (defScope st__law_small) .none kV29 dc29 pm29 an29 cd29 ct29), sl29⟩)
    (c29 : PySem.W.codeIn K cd29 "_law_small" = true)
    (k29 : PySem.W.keepIn K (.ref f29) = true)
    (a30 : PySem.W.nsIn K mainGlobals "_law_system" = some (some (.ref f30)))
    (l30 : K.lookup f30 = some ⟨oc30, od30, .func (PySem.W.fnOf "_law_system" "_law_system" (defArgs st__law_system) (defBody st__law_system) (defScope st__law_system) .none kV30 dc30 pm30 an30 cd30 ct30), sl30⟩)
    (c30 : PySem.W.codeIn K cd30 "_law_system" = true)
    (k30 : PySem.W.keepIn K (.ref f30) = true)
    (a31 : PySem.W.nsIn K mainGlobals "_law_sums" = some (some (.ref f31)))
    (l31 : K.lookup f31 = some ⟨oc31, od31, .func (PySem.W.fnOf "_law_sums" "_law_sums" (defArgs st__law_sums) (defBody st__law_sums) (defScope st__law_sums) .none kV31 dc31 pm31 an31 cd31 ct31), sl31⟩)
    (c31 : PySem.W.codeIn K cd31 "_law_sums" = true)
    (k31 : PySem.W.keepIn K (.ref f31) = true)
    (a32 : PySem.W.nsIn K mainGlobals "_law_kind" = some (some (.ref f32)))
    (l32 : K.lookup f32 = some ⟨oc32, od32, .func (PySem.W.fnOf "_law_kind" "_law_kind" (defArgs st__law_kind) (defBody st__law_kind) (defScope st__law_kind) .none kV32 dc32 pm32 an32 cd32 ct32), sl32⟩)
    (c32 : PySem.W.codeIn K cd32 "_law_kind" = true)
    (k32 : PySem.W.keepIn K (.ref f32) = true)
    (a33 : PySem.W.nsIn K mainGlobals "_law_solved" = some (some (.ref f33)))
    (l33 : K.lookup f33 = some ⟨oc33, od33, .func (PySem.W.fnOf "_law_solved" "_law_solved" (defArgs st__law_solved) (defBody st__law_solved) (defScope st__law_solved) .none kV33 dc33 pm33 an33 cd33 ct33), sl33⟩)
    (c33 : PySem.W.codeIn K cd33 "_law_solved" = true)
    (k33 : PySem.W.keepIn K (.ref f33) = true)
    (a34 : PySem.W.nsIn K mainGlobals "_law_ranked" = some (some (.ref f34)))
    (l34 : K.lookup f34 = some ⟨oc34, od34, .func (PySem.W.fnOf "_law_ranked" "_law_ranked" (defArgs st__law_ranked) (defBody st__law_ranked) (defScope st__law_ranked) .none kV34 dc34 pm34 an34 cd34 ct34), sl34⟩)
    (c34 : PySem.W.codeIn K cd34 "_law_ranked" = true)
    (k34 : PySem.W.keepIn K (.ref f34) = true)
    (a35 : PySem.W.nsIn K mainGlobals "law" = some (some (.ref f35)))
    (l35 : K.lookup f35 = some ⟨oc35, od35, .func (PySem.W.fnOf "law" "law" (defArgs st_law) (defBody st_law) (defScope st_law) .none kV35 dc35 pm35 an35 cd35 ct35), sl35⟩)
    (c35 : PySem.W.codeIn K cd35 "law" = true)
    (k35 : PySem.W.keepIn K (.ref f35) = true)
    (ca0 : PySem.W.nsIn K mainGlobals "UnbentError" = some (some (.ref C0)))
    (cb0 : PySem.W.keepIn K (.ref C0) = true)
    (cc0 : PySem.W.excIn K C0 [.type "ValueError", .type "Exception", .type "BaseException", .type "object"] "ValueError.__new__" = true)
    (cd1000 : PySem.W.subIn K (.ref C0) (.type "BaseException") = some true)
    (ce0 : PySem.W.typeIn K (.ref C0) = some (.type "type"))
    (ca4 : PySem.W.nsIn K mainGlobals "InvalidSystem" = some (some (.ref C4)))
    (cb4 : PySem.W.keepIn K (.ref C4) = true)
    (xlc4 : K.lookup C4 = some (excClassObj xn4 xq4 C4 N4 xb4 xm4 true xl4 xs4 xab4 xco4 xd4 x0k4 x1k4 x2k4 x3k4 x5k4 "ValueError.__new__"))
    (xr4 : PySem.HandSPX.refsVE xm4 = true)
    (xsa4 : PySem.W.findIn K (.ref C4) "__setattr__" = some (some (.builtin "object.__setattr__")))
    (cd1004 : PySem.W.subIn K (.ref C4) (.type "BaseException") = some true)
    (ce4 : PySem.W.typeIn K (.ref C4) = some (.type "type"))
    (xi4 : PySem.W.findIn K (.ref C4) "__init__" = some (some (.ref xf4)))
    (xt4 : PySem.W.typeIn K (.ref xf4) = some (.type "function"))
    (xw4 : K.lookup xf4 = some ⟨xoc4, xo4, .func (PySem.W.fnOf "__init__" "InvalidSystem.__init__" (defArgs st_InvalidSystem) (defBody st_InvalidSystem) (defScope st_InvalidSystem) .none xkV4 xdc4 xpm4 xan4 xcd4 xct4), xsl4⟩)
    (xc4 : PySem.W.codeIn K xcd4 "InvalidSystem.__init__" = true)
    (xf4_69 : PySem.W.findIn K (.ref C4) (fnm 69) = some none)
    (ca9 : PySem.W.nsIn K mainGlobals "TooLarge" = some (some (.ref C9)))
    (cb9 : PySem.W.keepIn K (.ref C9) = true)
    (xlc9 : K.lookup C9 = some (excClassObj xn9 xq9 C9 N9 xb9 xm9 true xl9 xs9 xab9 xco9 xd9 x0k9 x1k9 x2k9 x3k9 x5k9 "ValueError.__new__"))
    (xr9 : PySem.HandSPX.refsVE xm9 = true)
    (xsa9 : PySem.W.findIn K (.ref C9) "__setattr__" = some (some (.builtin "object.__setattr__")))
    (cd1009 : PySem.W.subIn K (.ref C9) (.type "BaseException") = some true)
    (ce9 : PySem.W.typeIn K (.ref C9) = some (.type "type"))
    (xi9 : PySem.W.findIn K (.ref C9) "__init__" = some (some (.ref xf9)))
    (xt9 : PySem.W.typeIn K (.ref xf9) = some (.type "function"))
    (xw9 : K.lookup xf9 = some ⟨xoc9, xo9, .func (PySem.W.fnOf "__init__" "TooLarge.__init__" (defArgs st_TooLarge) (defBody st_TooLarge) (defScope st_TooLarge) .none xkV9 xdc9 xpm9 xan9 xcd9 xct9), xsl9⟩)
    (xc9 : PySem.W.codeIn K xcd9 "TooLarge.__init__" = true)
    (xf9_48 : PySem.W.findIn K (.ref C9) (fnm 48) = some none)
    (ca16 : PySem.W.nsIn K mainGlobals "ZeroDenominator" = some (some (.ref C16)))
    (cb16 : PySem.W.keepIn K (.ref C16) = true)
    (cc16 : PySem.W.excIn K C16 [.type "ValueError", .type "Exception", .type "BaseException", .type "object"] "ValueError.__new__" = true)
    (cd1016 : PySem.W.subIn K (.ref C16) (.type "BaseException") = some true)
    (ce16 : PySem.W.typeIn K (.ref C16) = some (.type "type"))
    (v_ZERO : PySem.W.nsIn K mainGlobals "ZERO" = some (some (.ref V_ZERO)))
    (w_ZERO : K.lookup V_ZERO = some ⟨.type "tuple", dV_ZERO, .seq #[.int 0 tV_ZERO_0, .int 1 tV_ZERO_1] nV_ZERO, sV_ZERO⟩)
    (v_ONE : PySem.W.nsIn K mainGlobals "ONE" = some (some (.ref V_ONE)))
    (w_ONE : K.lookup V_ONE = some ⟨.type "tuple", dV_ONE, .seq #[.int 1 tV_ONE_0, .int 1 tV_ONE_1] nV_ONE, sV_ONE⟩)
    (v_MOST : PySem.W.nsIn K mainGlobals "MOST" = some (some (.int 72 tV_MOST)))
    (z_gcd : PySem.W.nsIn K mainGlobals "gcd" = some (some (.builtin "math.gcd")))
    (z_ValueError : PySem.W.nsIn K mainGlobals "ValueError" = some none)
    (z_abs : PySem.W.nsIn K mainGlobals "abs" = some none)
    (z_all : PySem.W.nsIn K mainGlobals "all" = some none)
    (z_bool : PySem.W.nsIn K mainGlobals "bool" = some none)
    (z_enumerate : PySem.W.nsIn K mainGlobals "enumerate" = some none)
    (z_int : PySem.W.nsIn K mainGlobals "int" = some none)
    (z_isinstance : PySem.W.nsIn K mainGlobals "isinstance" = some none)
    (z_len : PySem.W.nsIn K mainGlobals "len" = some none)
    (z_list : PySem.W.nsIn K mainGlobals "list" = some none)
    (z_min : PySem.W.nsIn K mainGlobals "min" = some none)
    (z_range : PySem.W.nsIn K mainGlobals "range" = some none)
    (z_str : PySem.W.nsIn K mainGlobals "str" = some none)
    (z_tuple : PySem.W.nsIn K mainGlobals "tuple" = some none)
    (z_zip : PySem.W.nsIn K mainGlobals "zip" = some none)
    (s4_0 : PySem.W.subIn K (.ref C4) (.ref C0) = some true)
    (hd0 : PySem.W.hasDictIn K C0 = true)
    (s9_0 : PySem.W.subIn K (.ref C9) (.ref C0) = some true)
    (s16_0 : PySem.W.subIn K (.ref C16) (.ref C0) = some true)
    (t4_4 : PySem.W.kitOne K (.ref C4) (.ref C4) = some true)
    (e4g : PySem.W.findIn K (.ref C4) "__getattribute__" = some (some (.builtin "BaseException.__getattribute__")))
    (e4k : PySem.W.findIn K (.ref C4) "__getattr__" = some none)
    (hd4 : PySem.W.hasDictIn K C4 = true)
    (e4a : PySem.W.findIn K (.ref C4) "__class__" = some (some (.builtin "object.__class__")))
    (e4m : PySem.W.mroIn K C4 (.type "object") = some true)
    (t4_9 : PySem.W.kitOne K (.ref C4) (.ref C9) = some false)
    (t9_4 : PySem.W.kitOne K (.ref C9) (.ref C4) = some false)
    (e9g : PySem.W.findIn K (.ref C9) "__getattribute__" = some (some (.builtin "BaseException.__getattribute__")))
    (e9k : PySem.W.findIn K (.ref C9) "__getattr__" = some none)
    (hd9 : PySem.W.hasDictIn K C9 = true)
    (e9a : PySem.W.findIn K (.ref C9) "__class__" = some (some (.builtin "object.__class__")))
    (e9m : PySem.W.mroIn K C9 (.type "object") = some true)
    (t9_9 : PySem.W.kitOne K (.ref C9) (.ref C9) = some true)
    (t16_4 : PySem.W.kitOne K (.ref C16) (.ref C4) = some false)
    (e16g : PySem.W.findIn K (.ref C16) "__getattribute__" = some (some (.builtin "BaseException.__getattribute__")))
    (e16k : PySem.W.findIn K (.ref C16) "__getattr__" = some none)
    (hd16 : PySem.W.hasDictIn K C16 = true)
    (e16a : PySem.W.findIn K (.ref C16) "__class__" = some (some (.builtin "object.__class__")))
    (e16m : PySem.W.mroIn K C16 (.type "object") = some true)
    (t16_9 : PySem.W.kitOne K (.ref C16) (.ref C9) = some false)
    (en : PySem.W.specialIn K (.builtin "object.__class__") "__get__" = some (some (.builtin "getset_descriptor.__get__")))
    (et : PySem.W.takesIn K (.builtin "object.__class__") = some true) : ∃ cv df f fd, pg.defs[35]? = some df ∧ PgOk pg K mg cv ∧ DfOk K mg "law" 1 [] df f fd ["_law_script"] :=
  ⟨cvL C0 C4 C9 C16, _, f35, _, rfl, ⟨glAll_of (l := gl) ⟨trivial, trivial, trivial, trivial, trivial, trivial, trivial, trivial, trivial, trivial, trivial, trivial, trivial, trivial, trivial, trivial, trivial, trivial, trivial, trivial, trivial, trivial, trivial, trivial, trivial, trivial, trivial, trivial, trivial, trivial, trivial, trivial, trivial, trivial, trivial, trivial, ⟨C0, rfl, PySem.W.mg_of X G ca0, cb0, cc0, cd1000, ce0⟩, xcls1 (st := st_InvalidSystem) (C := C4) X G rfl ⟨ca4, cb4, ⟨⟨_, _, _, _, _, _, _, _, _, _, _, _, _, _, _, xlc4, xr4⟩, xsa4, cd1004, ce4, cb4⟩, xi4, xt4, ⟨_, _, _, _, _, _, _, _, _, rfl, xw4, xc4⟩, sc_InvalidSystem, fun us hl => match us, hl with | [_, _], _ => rfl⟩ xf4_69 rfl (by decide) (by decide), xcls1 (st := st_TooLarge) (C := C9) X G rfl ⟨ca9, cb9, ⟨⟨_, _, _, _, _, _, _, _, _, _, _, _, _, _, _, xlc9, xr9⟩, xsa9, cd1009, ce9, cb9⟩, xi9, xt9, ⟨_, _, _, _, _, _, _, _, _, rfl, xw9, xc9⟩, sc_TooLarge, fun us hl => match us, hl with | [_, _], _ => rfl⟩ xf9_48 rfl (by decide) (by decide), ⟨C16, rfl, PySem.W.mg_of X G ca16, cb16, cc16, cd1016, ce16⟩, ⟨_, .ref V_ZERO, PySem.W.mg_of X G v_ZERO, rfl, fun _ _ _ => .tup (vs := [(.int 0), (.int 1)]) (.inr ⟨_, _, _, w_ZERO, rfl, rfl, Nat.le_of_ble_eq_true rfl, .cons ⟨_, rfl⟩ (.cons ⟨_, rfl⟩ (.nil))⟩) (.cons (.int _) (.cons (.int _) (.nil)))⟩, ⟨_, .ref V_ONE, PySem.W.mg_of X G v_ONE, rfl, fun _ _ _ => .tup (vs := [(.int 1), (.int 1)]) (.inr ⟨_, _, _, w_ONE, rfl, rfl, Nat.le_of_ble_eq_true rfl, .cons ⟨_, rfl⟩ (.cons ⟨_, rfl⟩ (.nil))⟩) (.cons (.int _) (.cons (.int _) (.nil)))⟩, ⟨_, (.int 72), PySem.W.mg_of X G v_MOST, ⟨_, rfl⟩, fun _ _ _ => (.int _)⟩, PySem.W.mg_of X G z_gcd, PySem.W.mg_none_of X G z_ValueError, PySem.W.mg_none_of X G z_abs, PySem.W.mg_none_of X G z_all, PySem.W.mg_none_of X G z_bool, PySem.W.mg_none_of X G z_enumerate, PySem.W.mg_none_of X G z_int, PySem.W.mg_none_of X G z_isinstance, PySem.W.mg_none_of X G z_len, PySem.W.mg_none_of X G z_list, PySem.W.mg_none_of X G z_min, PySem.W.mg_none_of X G z_range, PySem.W.mg_none_of X G z_str, PySem.W.mg_none_of X G z_tuple, PySem.W.mg_none_of X G z_zip, trivial⟩, tbAll_of (l := [(4, 0, true), (9, 0, true), (16, 0, true)]) ⟨PySem.W.exm_ref cd1000 hd0 ce0 s4_0, PySem.W.exm_ref cd1000 hd0 ce0 s9_0, PySem.W.exm_ref cd1000 hd0 ce0 s16_0, trivial⟩, tbAll_of (l := [(4, 4, true), (4, 9, false), (9, 4, false), (9, 9, true), (16, 4, false), (16, 9, false)]) ⟨⟨t4_4, C4, rfl, ⟨e4g, e4k, cd1004, hd4, e4a, en, et, e4m⟩⟩, ⟨t4_9, C4, rfl, ⟨e4g, e4k, cd1004, hd4, e4a, en, et, e4m⟩⟩, ⟨t9_4, C9, rfl, ⟨e9g, e9k, cd1009, hd9, e9a, en, et, e9m⟩⟩, ⟨t9_9, C9, rfl, ⟨e9g, e9k, cd1009, hd9, e9a, en, et, e9m⟩⟩, ⟨t16_4, C16, rfl, ⟨e16g, e16k, cd1016, hd16, e16a, en, et, e16m⟩⟩, ⟨t16_9, C16, rfl, ⟨e16g, e16k, cd1016, hd16, e16a, en, et, e16m⟩⟩, trivial⟩,
    dfAll_of (l := gl) ⟨(let ⟨fd, F⟩ := df_mkD (ps := ["p", "q"]) (dv := [(.int 1)]) (dvs := [(.int 1)]) X G a0 l0 c0 k0 lT0 rfl (.cons ⟨_, rfl⟩ (.nil)) (fun _ _ _ => .cons (.int _) (.nil)) (by simp) sc_make (fun j hj => match j, hj with | 0, _ => fun _ _ _ _ _ _ _ us its hu hi => (match us, hu, its, hi with | [_], _, [_], _ => ⟨_, rfl, rfl⟩) | 1, _ => fun _ _ _ _ _ _ _ us its hu hi => (match us, hu, its, hi with | [_, _], _, [_], _ => ⟨_, rfl, rfl⟩) | j + 2, h => absurd h (by simp)) (by decide); ⟨_, f0, fd, _, rfl, F⟩),
      (let ⟨fd, F⟩ := df_mk (ps := ["a", "b"]) X G a1 l1 c1 k1 sc_add (fun _ _ _ _ _ _ us hl => match us, hl with | [_, _], _ => rfl); ⟨_, f1, fd, _, rfl, F⟩),
      (let ⟨fd, F⟩ := df_mk (ps := ["a"]) X G a2 l2 c2 k2 sc_negate (fun _ _ _ _ _ _ us hl => match us, hl with | [_], _ => rfl); ⟨_, f2, fd, _, rfl, F⟩),
      (let ⟨fd, F⟩ := df_mk (ps := ["a", "b"]) X G a3 l3 c3 k3 sc_multiply (fun _ _ _ _ _ _ us hl => match us, hl with | [_, _], _ => rfl); ⟨_, f3, fd, _, rfl, F⟩),
      (let ⟨fd, F⟩ := df_mk (ps := ["a", "b"]) X G a4 l4 c4 k4 sc_divide (fun _ _ _ _ _ _ us hl => match us, hl with | [_, _], _ => rfl); ⟨_, f4, fd, _, rfl, F⟩),
      (let ⟨fd, F⟩ := df_mk (ps := ["a", "b"]) X G a5 l5 c5 k5 sc_compare (fun _ _ _ _ _ _ us hl => match us, hl with | [_, _], _ => rfl); ⟨_, f5, fd, _, rfl, F⟩),
      (let ⟨fd, F⟩ := df_mk (ps := ["a"]) X G a6 l6 c6 k6 sc_sign (fun _ _ _ _ _ _ us hl => match us, hl with | [_], _ => rfl); ⟨_, f6, fd, _, rfl, F⟩),
      (let ⟨fd, F⟩ := df_mk (ps := ["values"]) X G a7 l7 c7 k7 sc_total (fun _ _ _ _ _ _ us hl => match us, hl with | [_], _ => rfl); ⟨_, f7, fd, _, rfl, F⟩),
      (let ⟨fd, F⟩ := df_mk (ps := ["first", "second"]) X G a8 l8 c8 k8 sc_dot (fun _ _ _ _ _ _ us hl => match us, hl with | [_, _], _ => rfl); ⟨_, f8, fd, _, rfl, F⟩),
      (let ⟨fd, F⟩ := df_mk (ps := ["rows"]) X G a9 l9 c9 k9 sc_column_count (fun _ _ _ _ _ _ us hl => match us, hl with | [_], _ => rfl); ⟨_, f9, fd, _, rfl, F⟩),
      (let ⟨fd, F⟩ := df_mk (ps := ["rows"]) X G a10 l10 c10 k10 sc_check_rows (fun _ _ _ _ _ _ us hl => match us, hl with | [_], _ => rfl); ⟨_, f10, fd, _, rfl, F⟩),
      (let ⟨fd, F⟩ := df_mk (ps := ["rows", "bounds"]) X G a11 l11 c11 k11 sc_check_system (fun _ _ _ _ _ _ us hl => match us, hl with | [_, _], _ => rfl); ⟨_, f11, fd, _, rfl, F⟩),
      (let ⟨fd, F⟩ := df_mk (ps := ["length", "index"]) X G a12 l12 c12 k12 sc_unit_row (fun _ _ _ _ _ _ us hl => match us, hl with | [_, _], _ => rfl); ⟨_, f12, fd, _, rfl, F⟩),
      (let ⟨fd, F⟩ := df_mk (ps := ["row", "other", "factor"]) X G a13 l13 c13 k13 sc_plus_multiple (fun _ _ _ _ _ _ us hl => match us, hl with | [_, _, _], _ => rfl); ⟨_, f13, fd, _, rfl, F⟩),
      (let ⟨fd, F⟩ := df_mk (ps := ["table", "start", "column"]) X G a14 l14 c14 k14 sc_first_row_with (fun _ _ _ _ _ _ us hl => match us, hl with | [_, _, _], _ => rfl); ⟨_, f14, fd, _, rfl, F⟩),
      (let ⟨fd, F⟩ := df_mk (ps := ["table", "columns"]) X G a15 l15 c15 k15 sc_eliminated (fun _ _ _ _ _ _ us hl => match us, hl with | [_, _], _ => rfl); ⟨_, f15, fd, _, rfl, F⟩),
      (let ⟨fd, F⟩ := df_mk (ps := ["rows"]) X G a16 l16 c16 k16 sc_rank (fun _ _ _ _ _ _ us hl => match us, hl with | [_], _ => rfl); ⟨_, f16, fd, _, rfl, F⟩),
      (let ⟨fd, F⟩ := df_mk (ps := ["rows", "bounds"]) X G a17 l17 c17 k17 sc_solve (fun _ _ _ _ _ _ us hl => match us, hl with | [_, _], _ => rfl); ⟨_, f17, fd, _, rfl, F⟩),
      (let ⟨fd, F⟩ := df_mk (ps := ["rows", "bounds", "values"]) X G a18 l18 c18 k18 sc_is_solution (fun _ _ _ _ _ _ us hl => match us, hl with | [_, _, _], _ => rfl); ⟨_, f18, fd, _, rfl, F⟩),
      (let ⟨fd, F⟩ := df_mk (ps := ["rows", "bounds", "factors"]) X G a19 l19 c19 k19 sc_is_contradiction (fun _ _ _ _ _ _ us hl => match us, hl with | [_, _, _], _ => rfl); ⟨_, f19, fd, _, rfl, F⟩),
      (let ⟨fd, F⟩ := df_mk (ps := ["_law_script"]) X G a20 l20 c20 k20 sc__law_deck (fun _ _ _ _ _ _ us hl => match us, hl with | [_], _ => rfl); ⟨_, f20, fd, _, rfl, F⟩),
      (let ⟨fd, F⟩ := df_mk (ps := ["_law_deck_here", "_law_most"]) X G a21 l21 c21 k21 sc__law_draw (fun _ _ _ _ _ _ us hl => match us, hl with | [_, _], _ => rfl); ⟨_, f21, fd, _, rfl, F⟩),
      (let ⟨fd, F⟩ := df_mk (ps := ["_law_actual", "_law_due"]) X G a22 l22 c22 k22 sc__law_same (fun _ _ _ _ _ _ us hl => match us, hl with | [_, _], _ => rfl); ⟨_, f22, fd, _, rfl, F⟩),
      (let ⟨fd, F⟩ := df_mk (ps := ["_law_a", "_law_b"]) X G a23 l23 c23 k23 sc__law_gcd (fun _ _ _ _ _ _ us hl => match us, hl with | [_, _], _ => rfl); ⟨_, f23, fd, _, rfl, F⟩),
      (let ⟨fd, F⟩ := df_mk (ps := ["_law_p", "_law_q"]) X G a24 l24 c24 k24 sc__law_ratio (fun _ _ _ _ _ _ us hl => match us, hl with | [_, _], _ => rfl); ⟨_, f24, fd, _, rfl, F⟩),
      (let ⟨fd, F⟩ := df_mk (ps := ["_law_a", "_law_b"]) X G a25 l25 c25 k25 sc__law_add (fun _ _ _ _ _ _ us hl => match us, hl with | [_, _], _ => rfl); ⟨_, f25, fd, _, rfl, F⟩),
      (let ⟨fd, F⟩ := df_mk (ps := ["_law_a", "_law_b"]) X G a26 l26 c26 k26 sc__law_times (fun _ _ _ _ _ _ us hl => match us, hl with | [_, _], _ => rfl); ⟨_, f26, fd, _, rfl, F⟩),
      (let ⟨fd, F⟩ := df_mk (ps := ["_law_values"]) X G a27 l27 c27 k27 sc__law_total (fun _ _ _ _ _ _ us hl => match us, hl with | [_], _ => rfl); ⟨_, f27, fd, _, rfl, F⟩),
      (let ⟨fd, F⟩ := df_mk (ps := ["_law_first", "_law_second"]) X G a28 l28 c28 k28 sc__law_dot (fun _ _ _ _ _ _ us hl => match us, hl with | [_, _], _ => rfl); ⟨_, f28, fd, _, rfl, F⟩),
      (let ⟨fd, F⟩ := df_mk (ps := ["_law_deck_here"]) X G a29 l29 c29 k29 sc__law_small (fun _ _ _ _ _ _ us hl => match us, hl with | [_], _ => rfl); ⟨_, f29, fd, _, rfl, F⟩),
      (let ⟨fd, F⟩ := df_mk (ps := ["_law_deck_here"]) X G a30 l30 c30 k30 sc__law_system (fun _ _ _ _ _ _ us hl => match us, hl with | [_], _ => rfl); ⟨_, f30, fd, _, rfl, F⟩),
      (let ⟨fd, F⟩ := df_mk (ps := ["_law_rows", "_law_factors"]) X G a31 l31 c31 k31 sc__law_sums (fun _ _ _ _ _ _ us hl => match us, hl with | [_, _], _ => rfl); ⟨_, f31, fd, _, rfl, F⟩),
      (let ⟨fd, F⟩ := df_mk (ps := ["_law_e"]) X G a32 l32 c32 k32 sc__law_kind (fun _ _ _ _ _ _ us hl => match us, hl with | [_], _ => rfl); ⟨_, f32, fd, _, rfl, F⟩),
      (let ⟨fd, F⟩ := df_mk (ps := ["_law_rows", "_law_bounds"]) X G a33 l33 c33 k33 sc__law_solved (fun _ _ _ _ _ _ us hl => match us, hl with | [_, _], _ => rfl); ⟨_, f33, fd, _, rfl, F⟩),
      (let ⟨fd, F⟩ := df_mk (ps := ["_law_rows"]) X G a34 l34 c34 k34 sc__law_ranked (fun _ _ _ _ _ _ us hl => match us, hl with | [_], _ => rfl); ⟨_, f34, fd, _, rfl, F⟩),
      (let ⟨fd, F⟩ := df_mk (ps := ["_law_script"]) X G a35 l35 c35 k35 sc_law (fun _ _ _ _ _ _ us hl => match us, hl with | [_], _ => rfl); ⟨_, f35, fd, _, rfl, F⟩),
      trivial⟩, clAll_of (l := gl) trivial, meAll_of (l := ms) trivial, naAll_of (l := insL) ⟨(fun C e => by cases e), (fun C e => by cases e), (fun C e => by cases e), (fun C e => by cases e), (fun C e => by cases e), (fun C e => by cases e), (fun C e => by cases e), (fun C e => by cases e), (fun C e => by cases e), (fun C e => by cases e), (fun C e => by cases e), (fun C e => by cases e), (fun C e => by cases e), (fun C e => by cases e), (fun C e => by cases e), (fun C e => by cases e), (fun C e => by cases e), trivial⟩, xfAll_of (l := []) trivial⟩,
    (df_mk (ps := ["_law_script"]) X G a35 l35 c35 k35 sc_law (fun _ _ _ _ _ _ us hl => match us, hl with | [_], _ => rfl)).choose_spec⟩
end Lw
open PySem PySem.W PyProof.Rows
set_option maxHeartbeats 0 in
theorem PySem.Challenge.cw_unbent_k06_systems_judged_holds : PySem.Challenge.rw_unbent_k06_systems_judged.Holds := by
  w_on; o_law; k_head; (case hw => w_witness2)
  k_fill
  refine Mn.walk_mn (l := PySem.Challenge.rw_unbent_k06_systems_judged) (n := 63) (k := 6) (id := 35) (x := "_law_script") (P := Lw.pg) rfl (by decide) rfl ⟨rfl, by decide, by decide⟩ (fun w h Y => PySem.W.kIn_of Y) (fun ns h1 h2 => Lw.law_true ns h1 h2) ?F
  intro w mg h X G
  refine' Lw.pg_mk X G ?a0 ?l0 ?c0 ?k0 ?lT0 ?a1 ?l1 ?c1 ?k1 ?a2 ?l2 ?c2 ?k2 ?a3 ?l3 ?c3 ?k3 ?a4 ?l4 ?c4 ?k4 ?a5 ?l5 ?c5 ?k5 ?a6 ?l6 ?c6 ?k6 ?a7 ?l7 ?c7 ?k7 ?a8 ?l8 ?c8 ?k8 ?a9 ?l9 ?c9 ?k9 ?a10 ?l10 ?c10 ?k10 ?a11 ?l11 ?c11 ?k11 ?a12 ?l12 ?c12 ?k12 ?a13 ?l13 ?c13 ?k13 ?a14 ?l14 ?c14 ?k14 ?a15 ?l15 ?c15 ?k15 ?a16 ?l16 ?c16 ?k16 ?a17 ?l17 ?c17 ?k17 ?a18 ?l18 ?c18 ?k18 ?a19 ?l19 ?c19 ?k19 ?a20 ?l20 ?c20 ?k20 ?a21 ?l21 ?c21 ?k21 ?a22 ?l22 ?c22 ?k22 ?a23 ?l23 ?c23 ?k23 ?a24 ?l24 ?c24 ?k24 ?a25 ?l25 ?c25 ?k25 ?a26 ?l26 ?c26 ?k26 ?a27 ?l27 ?c27 ?k27 ?a28 ?l28 ?c28 ?k28 ?a29 ?l29 ?c29 ?k29 ?a30 ?l30 ?c30 ?k30 ?a31 ?l31 ?c31 ?k31 ?a32 ?l32 ?c32 ?k32 ?a33 ?l33 ?c33 ?k33 ?a34 ?l34 ?c34 ?k34 ?a35 ?l35 ?c35 ?k35 ?ca0 ?cb0 ?cc0 ?cd1000 ?ce0 ?ca4 ?cb4 ?xlc4 ?xr4 ?xsa4 ?cd1004 ?ce4 ?xi4 ?xt4 ?xw4 ?xc4 ?xf4_69 ?ca9 ?cb9 ?xlc9 ?xr9 ?xsa9 ?cd1009 ?ce9 ?xi9 ?xt9 ?xw9 ?xc9 ?xf9_48 ?ca16 ?cb16 ?cc16 ?cd1016 ?ce16 ?v_ZERO ?w_ZERO ?v_ONE ?w_ONE ?v_MOST ?z_gcd ?z_ValueError ?z_abs ?z_all ?z_bool ?z_enumerate ?z_int ?z_isinstance ?z_len ?z_list ?z_min ?z_range ?z_str ?z_tuple ?z_zip ?s4_0 ?hd0 ?s9_0 ?s16_0 ?t4_4 ?e4g ?e4k ?hd4 ?e4a ?e4m ?t4_9 ?t9_4 ?e9g ?e9k ?hd9 ?e9a ?e9m ?t9_9 ?t16_4 ?e16g ?e16k ?hd16 ?e16a ?e16m ?t16_9 ?en ?et
  (case a0 => k_is)
  (case l0 => k_is)
  (case c0 => k_is)
  (case k0 => k_is)
  (case lT0 => k_is)
  (case a1 => k_is)
  (case l1 => k_is)
  (case c1 => k_is)
  (case k1 => k_is)
  (case a2 => k_is)
  (case l2 => k_is)
  (case c2 => k_is)
  (case k2 => k_is)
  (case a3 => k_is)
  (case l3 => k_is)
  (case c3 => k_is)
  (case k3 => k_is)
  (case a4 => k_is)
  (case l4 => k_is)
  (case c4 => k_is)
  (case k4 => k_is)
  (case a5 => k_is)
  (case l5 => k_is)
  (case c5 => k_is)
  (case k5 => k_is)
  (case a6 => k_is)
  (case l6 => k_is)
  (case c6 => k_is)
  (case k6 => k_is)
  (case a7 => k_is)
  (case l7 => k_is)
  (case c7 => k_is)
  (case k7 => k_is)
  (case a8 => k_is)
  (case l8 => k_is)
  (case c8 => k_is)
  (case k8 => k_is)
  (case a9 => k_is)
  (case l9 => k_is)
  (case c9 => k_is)
  (case k9 => k_is)
  (case a10 => k_is)
  (case l10 => k_is)
  (case c10 => k_is)
  (case k10 => k_is)
  (case a11 => k_is)
  (case l11 => k_is)
  (case c11 => k_is)
  (case k11 => k_is)
  (case a12 => k_is)
  (case l12 => k_is)
  (case c12 => k_is)
  (case k12 => k_is)
  (case a13 => k_is)
  (case l13 => k_is)
  (case c13 => k_is)
  (case k13 => k_is)
  (case a14 => k_is)
  (case l14 => k_is)
  (case c14 => k_is)
  (case k14 => k_is)
  (case a15 => k_is)
  (case l15 => k_is)
  (case c15 => k_is)
  (case k15 => k_is)
  (case a16 => k_is)
  (case l16 => k_is)
  (case c16 => k_is)
  (case k16 => k_is)
  (case a17 => k_is)
  (case l17 => k_is)
  (case c17 => k_is)
  (case k17 => k_is)
  (case a18 => k_is)
  (case l18 => k_is)
  (case c18 => k_is)
  (case k18 => k_is)
  (case a19 => k_is)
  (case l19 => k_is)
  (case c19 => k_is)
  (case k19 => k_is)
  (case a20 => k_is)
  (case l20 => k_is)
  (case c20 => k_is)
  (case k20 => k_is)
  (case a21 => k_is)
  (case l21 => k_is)
  (case c21 => k_is)
  (case k21 => k_is)
  (case a22 => k_is)
  (case l22 => k_is)
  (case c22 => k_is)
  (case k22 => k_is)
  (case a23 => k_is)
  (case l23 => k_is)
  (case c23 => k_is)
  (case k23 => k_is)
  (case a24 => k_is)
  (case l24 => k_is)
  (case c24 => k_is)
  (case k24 => k_is)
  (case a25 => k_is)
  (case l25 => k_is)
  (case c25 => k_is)
  (case k25 => k_is)
  (case a26 => k_is)
  (case l26 => k_is)
  (case c26 => k_is)
  (case k26 => k_is)
  (case a27 => k_is)
  (case l27 => k_is)
  (case c27 => k_is)
  (case k27 => k_is)
  (case a28 => k_is)
  (case l28 => k_is)
  (case c28 => k_is)
  (case k28 => k_is)
  (case a29 => k_is)
  (case l29 => k_is)
  (case c29 => k_is)
  (case k29 => k_is)
  (case a30 => k_is)
  (case l30 => k_is)
  (case c30 => k_is)
  (case k30 => k_is)
  (case a31 => k_is)
  (case l31 => k_is)
  (case c31 => k_is)
  (case k31 => k_is)
  (case a32 => k_is)
  (case l32 => k_is)
  (case c32 => k_is)
  (case k32 => k_is)
  (case a33 => k_is)
  (case l33 => k_is)
  (case c33 => k_is)
  (case k33 => k_is)
  (case a34 => k_is)
  (case l34 => k_is)
  (case c34 => k_is)
  (case k34 => k_is)
  (case a35 => k_is)
  (case l35 => k_is)
  (case c35 => k_is)
  (case k35 => k_is)
  (case ca0 => k_is)
  (case cb0 => k_is)
  (case cc0 => k_exc)
  (case cd1000 => k_is)
  (case ce0 => k_is)
  (case ca4 => k_is)
  (case cb4 => k_is)
  (case xlc4 => k_is)
  (case xr4 => kernel_rfl)
  (case xsa4 => k_is)
  (case cd1004 => k_is)
  (case ce4 => k_is)
  (case xi4 => k_is)
  (case xt4 => k_is)
  (case xw4 => k_is)
  (case xc4 => k_is)
  (case xf4_69 => k_is)
  (case ca9 => k_is)
  (case cb9 => k_is)
  (case xlc9 => k_is)
  (case xr9 => kernel_rfl)
  (case xsa9 => k_is)
  (case cd1009 => k_is)
  (case ce9 => k_is)
  (case xi9 => k_is)
  (case xt9 => k_is)
  (case xw9 => k_is)
  (case xc9 => k_is)
  (case xf9_48 => k_is)
  (case ca16 => k_is)
  (case cb16 => k_is)
  (case cc16 => k_exc)
  (case cd1016 => k_is)
  (case ce16 => k_is)
  (case v_ZERO => k_is)
  (case w_ZERO => k_is)
  (case v_ONE => k_is)
  (case w_ONE => k_is)
  (case v_MOST => k_is)
  (case z_gcd => k_is)
  (case z_ValueError => k_is)
  (case z_abs => k_is)
  (case z_all => k_is)
  (case z_bool => k_is)
  (case z_enumerate => k_is)
  (case z_int => k_is)
  (case z_isinstance => k_is)
  (case z_len => k_is)
  (case z_list => k_is)
  (case z_min => k_is)
  (case z_range => k_is)
  (case z_str => k_is)
  (case z_tuple => k_is)
  (case z_zip => k_is)
  (case s4_0 => k_is)
  (case hd0 => k_is)
  (case s9_0 => k_is)
  (case s16_0 => k_is)
  (case t4_4 => first | k_is | kernel_rfl)
  (case e4g => k_is)
  (case e4k => k_is)
  (case hd4 => k_is)
  (case e4a => k_is)
  (case e4m => k_is)
  (case t4_9 => first | k_is | kernel_rfl)
  (case t9_4 => first | k_is | kernel_rfl)
  (case e9g => k_is)
  (case e9k => k_is)
  (case hd9 => k_is)
  (case e9a => k_is)
  (case e9m => k_is)
  (case t9_9 => first | k_is | kernel_rfl)
  (case t16_4 => first | k_is | kernel_rfl)
  (case e16g => k_is)
  (case e16k => k_is)
  (case hd16 => k_is)
  (case e16a => k_is)
  (case e16m => k_is)
  (case t16_9 => first | k_is | kernel_rfl)
  (case en => k_is)
  (case et => k_is)
