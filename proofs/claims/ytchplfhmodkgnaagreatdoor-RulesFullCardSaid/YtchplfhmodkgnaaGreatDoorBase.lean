/-
  The instructions of a small evaluator of loaded programs, and what they do (an abstract run that the kernel reckons).
  It says nothing of one program: conditions stand in each theorem.
-/
import Derived.WalkKit
set_option linter.constructorNameAsVariable false
namespace Go.Ev

inductive D where
  | d0 | d1 | d2 | d3 | d4 | d5 | d6 | d7
  deriving DecidableEq
structure N (α : Type) where
  mk ::
  c0 : α
  c1 : α
  c2 : α
  c3 : α
  c4 : α
  c5 : α
  c6 : α
  c7 : α
/-- the part of a number -/
noncomputable def N.at {α : Type} : D → N α → α := D.rec (motive := fun _ => N α → α) N.c0 N.c1 N.c2 N.c3 N.c4 N.c5 N.c6 N.c7
noncomputable def u0 {α : Type} (K : N α → Bool) (c1 c2 c3 c4 c5 c6 c7 c : α) : Bool := K (N.mk c c1 c2 c3 c4 c5 c6 c7)
noncomputable def p0 {α : Type} (S : (α → Bool) → α → Bool) (K : N α → Bool) (c0 c1 c2 c3 c4 c5 c6 c7 : α) : Bool := S (u0 K c1 c2 c3 c4 c5 c6 c7) c0
noncomputable def u1 {α : Type} (K : N α → Bool) (c0 c2 c3 c4 c5 c6 c7 c : α) : Bool := K (N.mk c0 c c2 c3 c4 c5 c6 c7)
noncomputable def p1 {α : Type} (S : (α → Bool) → α → Bool) (K : N α → Bool) (c0 c1 c2 c3 c4 c5 c6 c7 : α) : Bool := S (u1 K c0 c2 c3 c4 c5 c6 c7) c1
noncomputable def u2 {α : Type} (K : N α → Bool) (c0 c1 c3 c4 c5 c6 c7 c : α) : Bool := K (N.mk c0 c1 c c3 c4 c5 c6 c7)
noncomputable def p2 {α : Type} (S : (α → Bool) → α → Bool) (K : N α → Bool) (c0 c1 c2 c3 c4 c5 c6 c7 : α) : Bool := S (u2 K c0 c1 c3 c4 c5 c6 c7) c2
noncomputable def u3 {α : Type} (K : N α → Bool) (c0 c1 c2 c4 c5 c6 c7 c : α) : Bool := K (N.mk c0 c1 c2 c c4 c5 c6 c7)
noncomputable def p3 {α : Type} (S : (α → Bool) → α → Bool) (K : N α → Bool) (c0 c1 c2 c3 c4 c5 c6 c7 : α) : Bool := S (u3 K c0 c1 c2 c4 c5 c6 c7) c3
noncomputable def u4 {α : Type} (K : N α → Bool) (c0 c1 c2 c3 c5 c6 c7 c : α) : Bool := K (N.mk c0 c1 c2 c3 c c5 c6 c7)
noncomputable def p4 {α : Type} (S : (α → Bool) → α → Bool) (K : N α → Bool) (c0 c1 c2 c3 c4 c5 c6 c7 : α) : Bool := S (u4 K c0 c1 c2 c3 c5 c6 c7) c4
noncomputable def u5 {α : Type} (K : N α → Bool) (c0 c1 c2 c3 c4 c6 c7 c : α) : Bool := K (N.mk c0 c1 c2 c3 c4 c c6 c7)
noncomputable def p5 {α : Type} (S : (α → Bool) → α → Bool) (K : N α → Bool) (c0 c1 c2 c3 c4 c5 c6 c7 : α) : Bool := S (u5 K c0 c1 c2 c3 c4 c6 c7) c5
noncomputable def u6 {α : Type} (K : N α → Bool) (c0 c1 c2 c3 c4 c5 c7 c : α) : Bool := K (N.mk c0 c1 c2 c3 c4 c5 c c7)
noncomputable def p6 {α : Type} (S : (α → Bool) → α → Bool) (K : N α → Bool) (c0 c1 c2 c3 c4 c5 c6 c7 : α) : Bool := S (u6 K c0 c1 c2 c3 c4 c5 c7) c6
noncomputable def u7 {α : Type} (K : N α → Bool) (c0 c1 c2 c3 c4 c5 c6 c : α) : Bool := K (N.mk c0 c1 c2 c3 c4 c5 c6 c)
noncomputable def p7 {α : Type} (S : (α → Bool) → α → Bool) (K : N α → Bool) (c0 c1 c2 c3 c4 c5 c6 c7 : α) : Bool := S (u7 K c0 c1 c2 c3 c4 c5 c6) c7
noncomputable def D.pel {α : Type} : D → ((α → Bool) → α → Bool) → (N α → Bool) → α → α → α → α → α → α → α → α → Bool := D.rec (motive := fun _ => ((α → Bool) → α → Bool) → (N α → Bool) → α → α → α → α → α → α → α → α → Bool) p0 p1 p2 p3 p4 p5 p6 p7
noncomputable def N.run {α : Type} : N α → (α → α → α → α → α → α → α → α → Bool) → Bool := N.rec (motive := fun _ => (α → α → α → α → α → α → α → α → Bool) → Bool) (fun c0 c1 c2 c3 c4 c5 c6 c7 K => K c0 c1 c2 c3 c4 c5 c6 c7)
/-- in the place of d what S makes of what stands there -/
noncomputable def N.upd {α : Type} (d : D) (S : (α → Bool) → α → Bool) (K : N α → Bool) (x : N α) : Bool := N.run x (D.pel d S K)
noncomputable def cst {α β : Type} (v : β) (K : β → Bool) (_ : α) : Bool := K v
def N.all {α : Type} (x : α) : N α := N.mk x x x x x x x x
noncomputable def D.inc : D → (D → Bool) → Bool → Bool := D.rec (motive := fun _ => (D → Bool) → Bool → Bool) (fun K _ => K .d1) (fun K _ => K .d2) (fun K _ => K .d3) (fun K _ => K .d4) (fun K _ => K .d5) (fun K _ => K .d6) (fun K _ => K .d7) (fun _ C => C)
noncomputable def D.val : D → Nat := D.rec (motive := fun _ => Nat) 0 1 2 3 4 5 6 7
/-- the key of a block: the digits of a number, the least one first; there is no last key -/
inductive BK where
  | z | s (d : D) (k : BK)
  deriving DecidableEq
/-- the key of a slot -/
structure VK where
  mk ::
  (a b : D)
  deriving DecidableEq
/-- the key of a function -/
structure FK where
  mk ::
  (a b c d : D)
  deriving DecidableEq
noncomputable def VK.val (k : VK) : Nat := Nat.add (Nat.mul k.a.val 8) k.b.val
noncomputable def FK.val (k : FK) : Nat := Nat.add (Nat.mul (Nat.add (Nat.mul (Nat.add (Nat.mul k.a.val 8) k.b.val) 8) k.c.val) 8) k.d.val
noncomputable def BK.val : BK → Nat := BK.rec (motive := fun _ => Nat) 0 (fun d _ ih => Nat.add (Nat.succ d.val) (Nat.mul ih 8))
/-- values without parts: bad: the evaluation stops; nothing yielded; not known; the nils -/
inductive Kc where
  | bad | u | x | pn | sln | mn | fnn | ifn
/-- the room of a slice: known; or not known (of elements of so many cells) -/
inductive Cp where
  | kn (c : Nat) | un (sz : Nat)
  deriving DecidableEq
/-- values; q: an integer of which the answers to some divisions are known (a remainder?, the divisor; the answers) -/
inductive AV where
  | k (c : Kc)
  | b (v : Bool)
  | i (k : IntKind) (n : Int)
  | s (l : List Nat)
  | p (k : BK) (o : Nat)
  | sl (k : BK) (o len : Nat) (cap : Cp)
  | m (k : BK)
  | fn (f : FK) (first cap : List AV)
  | iface (t : Nat) (v : AV)
  | agg (l : List AV)
  | tup (l : List AV)
  | q (k : IntKind) (t : List (Bool × Nat)) (l : List AV)
/-- of what type a row is: not known; a row of so many cells; a row of elements -/
inductive Tg where
  | o | x (t n : Nat) | r (t : Nat)
inductive Ob where
  | no
  | cells (g : Tg) (l : List AV)
  | map (es : List (AV × AV))
  | it (b : BK) (since : Nat) (seen : List Nat) (last : Nat)
/-- heaps: trees of blocks -/
inductive Tr where
  | nil | nd (o : Ob) (c0 c1 c2 c3 c4 c5 c6 c7 : Tr)
abbrev Heap := Tr
noncomputable def Tr.ob : Tr → Ob := Tr.rec (motive := fun _ => Ob) .no (fun o _ _ _ _ _ _ _ _ _ _ _ _ _ _ _ _ => o)
noncomputable def Tr.kid (d : D) : Tr → Tr := Tr.rec (motive := fun _ => Tr) .nil (fun _ c0 c1 c2 c3 c4 c5 c6 c7 _ _ _ _ _ _ _ _ => N.at d (N.mk c0 c1 c2 c3 c4 c5 c6 c7))
noncomputable def Tr.cs : Tr → (Ob → Tr → Tr → Tr → Tr → Tr → Tr → Tr → Tr → Bool) → Bool :=
  Tr.rec (motive := fun _ => (Ob → Tr → Tr → Tr → Tr → Tr → Tr → Tr → Tr → Bool) → Bool) (fun f => f .no .nil .nil .nil .nil .nil .nil .nil .nil) (fun o c0 c1 c2 c3 c4 c5 c6 c7 _ _ _ _ _ _ _ _ f => f o c0 c1 c2 c3 c4 c5 c6 c7)
abbrev Env := N (N AV)
noncomputable def hat' : BK → Heap → Ob := BK.rec (motive := fun _ => Heap → Ob) Tr.ob (fun d _ ih t => ih (Tr.kid d t))
noncomputable def hat (h : Heap) (k : BK) : Ob := hat' k h
noncomputable def vat (e : Env) (k : VK) : AV := N.at k.b (N.at k.a e)
noncomputable def hp1 (o : Ob) (K : Heap → Bool) (c0 c1 c2 c3 c4 c5 c6 c7 : Tr) : Bool := K (.nd o c0 c1 c2 c3 c4 c5 c6 c7)
noncomputable def hp2 (o : Ob) (K : Heap → Bool) (n : N Tr) : Bool := N.run n (hp1 o K)
noncomputable def hp3 (d : D) (ih : (Heap → Bool) → Heap → Bool) (K : Heap → Bool) (o : Ob) (c0 c1 c2 c3 c4 c5 c6 c7 : Tr) : Bool := D.pel d ih (hp2 o K) c0 c1 c2 c3 c4 c5 c6 c7
noncomputable def hp0 (v : Ob) (K : Heap → Bool) (_ : Ob) (c0 c1 c2 c3 c4 c5 c6 c7 : Tr) : Bool := K (.nd v c0 c1 c2 c3 c4 c5 c6 c7)
noncomputable def hput' : BK → Ob → (Heap → Bool) → Heap → Bool := BK.rec (motive := fun _ => Ob → (Heap → Bool) → Heap → Bool) (fun v K t => Tr.cs t (hp0 v K)) (fun d _ ih v K t => Tr.cs t (hp3 d (ih v) K))
noncomputable def hput (h : Heap) (k : BK) (v : Ob) (K : Heap → Bool) : Bool := hput' k v K h
noncomputable def vp1 (b : D) (v : AV) (K : N AV → Bool) (e : N AV) : Bool := N.upd b (cst v) K e
noncomputable def vp2 (a b : D) (e : Env) (v : AV) (K : Env → Bool) : Bool := N.upd a (vp1 b v) K e
noncomputable def vput' : VK → Env → AV → (Env → Bool) → Bool := VK.rec (motive := fun _ => Env → AV → (Env → Bool) → Bool) vp2
noncomputable def vput (e : Env) (k : VK) (v : AV) (K : Env → Bool) : Bool := vput' k e v K
noncomputable def bi1 (k : BK) (K : BK → Bool) (d : D) : Bool := K (.s d k)
noncomputable def bi2 (K : BK → Bool) (k : BK) : Bool := K (.s .d0 k)
/-- the key after a key -/
noncomputable def binc : BK → (BK → Bool) → Bool := BK.rec (motive := fun _ => (BK → Bool) → Bool) (fun K => K (.s .d0 .z)) (fun d k ih K => D.inc d (bi1 k K) (ih (bi2 K)))
def heap0 : Heap := .nil
def env0 : Env := N.all (N.all (.k .x))

/-! ### small steps -/
noncomputable def ifb (b t e : Bool) : Bool := Bool.rec (motive := fun _ => Bool) e t b
noncomputable def ifn (b : Bool) (t e : Nat) : Nat := Bool.rec (motive := fun _ => Nat) e t b
noncomputable def ifv (b : Bool) (t e : AV) : AV := Bool.rec (motive := fun _ => AV) e t b
noncomputable def frc : Nat → (Nat → Bool) → Bool := Nat.rec (motive := fun _ => (Nat → Bool) → Bool) (fun K => K 0) (fun m _ K => K (Nat.succ m))
noncomputable def hdD : List AV → AV := List.rec (motive := fun _ => AV) (.k .bad) (fun x _ _ => x)
noncomputable def tlD {α : Type} : List α → List α := List.rec (motive := fun _ => List α) [] (fun _ r _ => r)
/-- the n-th of a list; bad behind its end -/
noncomputable def nthD : Nat → List AV → AV := Nat.rec (motive := fun _ => List AV → AV) hdD (fun _ ih l => ih (tlD l))
noncomputable def nthN : Nat → List Nat → AV := Nat.rec (motive := fun _ => List Nat → AV) (List.rec (motive := fun _ => AV) (.k .bad) (fun x _ _ => .i .u8 (Int.ofNat x))) (fun _ ih l => ih (tlD l))
noncomputable def lcase {α : Type} : List α → Bool → (α → List α → Bool) → Bool := List.rec (motive := fun _ => Bool → (α → List α → Bool) → Bool) (fun n _ => n) (fun x r _ _ K => K x r)
noncomputable def kcons {α : Type} (K : List α → Bool) (x : α) (t : List α) : Bool := K (x :: t)
noncomputable def drp0 {α : Type} (l : List α) (K : List α → Bool) : Bool := K l
noncomputable def drpK {α : Type} (ih : List α → (List α → Bool) → Bool) (K : List α → Bool) (_ : α) (r : List α) : Bool := ih r K
noncomputable def drpS {α : Type} (_ : Nat) (ih : List α → (List α → Bool) → Bool) (l : List α) (K : List α → Bool) : Bool := lcase l false (drpK ih K)
/-- without the first n -/
noncomputable def drp {α : Type} : Nat → List α → (List α → Bool) → Bool := Nat.rec (motive := fun _ => List α → (List α → Bool) → Bool) drp0 drpS
noncomputable def tak0 {α : Type} (_ : List α) (K : List α → Bool) : Bool := K []
noncomputable def takK {α : Type} (ih : List α → (List α → Bool) → Bool) (K : List α → Bool) (x : α) (r : List α) : Bool := ih r (kcons K x)
noncomputable def takS {α : Type} (_ : Nat) (ih : List α → (List α → Bool) → Bool) (l : List α) (K : List α → Bool) : Bool := lcase l false (takK ih K)
/-- the first n -/
noncomputable def tak {α : Type} : Nat → List α → (List α → Bool) → Bool := Nat.rec (motive := fun _ => List α → (List α → Bool) → Bool) tak0 takS
noncomputable def ovlK {α : Type} (ih : List α → (List α → Bool) → Bool) (x : α) (K : List α → Bool) (_ : α) (r : List α) : Bool := ih r (kcons K x)
noncomputable def ovlS {α : Type} (x : α) (_ : List α) (ih : List α → (List α → Bool) → Bool) (a : List α) (K : List α → Bool) : Bool := lcase a false (ovlK ih x K)
/-- b laid over the head of a -/
noncomputable def ovl {α : Type} : List α → List α → (List α → Bool) → Bool := List.rec (motive := fun _ => List α → (List α → Bool) → Bool) drp0 ovlS
noncomputable def ovr0 {α : Type} (b a : List α) (K : List α → Bool) : Bool := ovl b a K
noncomputable def ovrK {α : Type} (ih : List α → List α → (List α → Bool) → Bool) (b : List α) (K : List α → Bool) (x : α) (r : List α) : Bool := ih b r (kcons K x)
noncomputable def ovrS {α : Type} (_ : Nat) (ih : List α → List α → (List α → Bool) → Bool) (b a : List α) (K : List α → Bool) : Bool := lcase a false (ovrK ih b K)
/-- b laid over a from the n-th on -/
noncomputable def ovr {α : Type} : Nat → List α → List α → (List α → Bool) → Bool := Nat.rec (motive := fun _ => List α → List α → (List α → Bool) → Bool) ovr0 ovrS
noncomputable def appS {α : Type} (x : α) (_ : List α) (ih : List α → (List α → Bool) → Bool) (b : List α) (K : List α → Bool) : Bool := ih b (kcons K x)
/-- a in front of b -/
noncomputable def app {α : Type} : List α → List α → (List α → Bool) → Bool := List.rec (motive := fun _ => List α → (List α → Bool) → Bool) drp0 appS
noncomputable def lenS {α : Type} (_ : α) (_ : List α) (ih : (Nat → Bool) → Nat → Bool) (K : Nat → Bool) (n : Nat) : Bool := frc (Nat.succ n) (ih K)
noncomputable def lenA {α : Type} : List α → (Nat → Bool) → Nat → Bool := List.rec (motive := fun _ => (Nat → Bool) → Nat → Bool) (fun K n => K n) lenS
noncomputable def len {α : Type} (l : List α) (K : Nat → Bool) : Bool := lenA l K 0
noncomputable def lenD {α : Type} : List α → Nat := List.rec (motive := fun _ => Nat) 0 (fun _ _ ih => Nat.add ih 1)
noncomputable def nul {α : Type} : List α → Bool := List.rec (motive := fun _ => Bool) true (fun _ _ _ => false)
noncomputable def leqK (ih : List Nat → Bool) (x y : Nat) (r : List Nat) : Bool := ifb (Nat.beq x y) (ih r) false
noncomputable def leqS (x : Nat) (_ : List Nat) (ih : List Nat → Bool) (b : List Nat) : Bool := lcase b false (leqK ih x)
/-- equal lists of numbers -/
noncomputable def leq : List Nat → List Nat → Bool := List.rec (motive := fun _ => List Nat → Bool) nul leqS
noncomputable def lltK (ih : List Nat → Bool) (x y : Nat) (r : List Nat) : Bool := ifb (Nat.blt x y) true (ifb (Nat.beq x y) (ih r) false)
noncomputable def lltS (x : Nat) (_ : List Nat) (ih : List Nat → Bool) (b : List Nat) : Bool := lcase b false (lltK ih x)
noncomputable def llt0 (b : List Nat) : Bool := ifb (nul b) false true
/-- less, byte by byte -/
noncomputable def llt : List Nat → List Nat → Bool := List.rec (motive := fun _ => List Nat → Bool) llt0 lltS
noncomputable def eqb : Bool → Bool → Bool := Bool.rec (motive := fun _ => Bool → Bool) (Bool.rec (motive := fun _ => Bool) true false) (Bool.rec (motive := fun _ => Bool) false true)
noncomputable def notb (b : Bool) : Bool := Bool.rec (motive := fun _ => Bool) true false b

/-! ### numbers -/
noncomputable def kno : IntKind → Nat := IntKind.rec (motive := fun _ => Nat) 0 1 2 3 4 5 6 7
noncomputable def kq (k l : IntKind) : Bool := Nat.beq (kno k) (kno l)
noncomputable def klim : IntKind → Nat := IntKind.rec (motive := fun _ => Nat) 127 32767 2147483647 9223372036854775807 255 65535 4294967295 18446744073709551615
noncomputable def ieqP : Int → Nat → Bool := Int.rec (motive := fun _ => Nat → Bool) Nat.beq (fun _ _ => false)
noncomputable def ieqN : Int → Nat → Bool := Int.rec (motive := fun _ => Nat → Bool) (fun _ _ => false) Nat.beq
noncomputable def ieq : Int → Int → Bool := Int.rec (motive := fun _ => Int → Bool) (fun m b => ieqP b m) (fun m b => ieqN b m)
noncomputable def iltP : Int → Nat → Bool := Int.rec (motive := fun _ => Nat → Bool) (fun n m => Nat.blt m n) (fun _ _ => false)
noncomputable def iltN : Int → Nat → Bool := Int.rec (motive := fun _ => Nat → Bool) (fun _ _ => true) (fun n m => Nat.blt n m)
noncomputable def ilt : Int → Int → Bool := Int.rec (motive := fun _ => Int → Bool) (fun m b => iltP b m) (fun m b => iltN b m)
noncomputable def inatV : Int → (Nat → AV) → AV := Int.rec (motive := fun _ => (Nat → AV) → AV) (fun n P => P n) (fun _ _ => .k .bad)
noncomputable def inatK : Int → (Nat → Bool) → Bool := Int.rec (motive := fun _ => (Nat → Bool) → Bool) (fun n P => P n) (fun _ _ => false)
noncomputable def ieqNN : Int → Bool := Int.rec (motive := fun _ => Bool) (fun _ => true) (fun _ => false)
noncomputable def inatD : Int → Nat := Int.rec (motive := fun _ => Nat) (fun n => n) (fun _ => 0)
noncomputable def wrapV (k : IntKind) (n : Int) : AV := .i k (k.wrap n)
noncomputable def natV (k : IntKind) (n : Nat) : AV := .i k (Int.ofNat n)
abbrev I2 := Int → IntKind → Nat → AV
noncomputable def addP : Int → IntKind → Nat → AV := Int.rec (motive := fun _ => IntKind → Nat → AV) (fun n k m => ifv (Nat.ble (Nat.add m n) (klim k)) (natV k (Nat.add m n)) (wrapV k (Int.ofNat m + Int.ofNat n))) (fun n k m => wrapV k (Int.ofNat m + Int.negSucc n))
noncomputable def addV : Int → IntKind → Int → AV := Int.rec (motive := fun _ => IntKind → Int → AV) (fun m k b => addP b k m) (fun m k b => wrapV k (Int.negSucc m + b))
noncomputable def subP : Int → IntKind → Nat → AV := Int.rec (motive := fun _ => IntKind → Nat → AV) (fun n k m => ifv (ifb (Nat.ble n m) (Nat.ble m (klim k)) false) (natV k (Nat.sub m n)) (wrapV k (Int.ofNat m - Int.ofNat n))) (fun n k m => wrapV k (Int.ofNat m - Int.negSucc n))
noncomputable def subV : Int → IntKind → Int → AV := Int.rec (motive := fun _ => IntKind → Int → AV) (fun m k b => subP b k m) (fun m k b => wrapV k (Int.negSucc m - b))
noncomputable def mulP : Int → IntKind → Nat → AV := Int.rec (motive := fun _ => IntKind → Nat → AV) (fun n k m => ifv (Nat.ble (Nat.mul m n) (klim k)) (natV k (Nat.mul m n)) (wrapV k (Int.ofNat m * Int.ofNat n))) (fun n k m => wrapV k (Int.ofNat m * Int.negSucc n))
noncomputable def mulV : Int → IntKind → Int → AV := Int.rec (motive := fun _ => IntKind → Int → AV) (fun m k b => mulP b k m) (fun m k b => wrapV k (Int.negSucc m * b))
noncomputable def bad1 (_ : Nat) (_ : IntKind) (_ : Int) : AV := .k .bad
noncomputable def bad2 (_ : Nat) (_ : IntKind) (_ : Nat) : AV := .k .bad
noncomputable def quoP : Int → IntKind → Nat → AV := Int.rec (motive := fun _ => IntKind → Nat → AV) (fun n k m => ifv (ifb (Nat.blt 0 n) (Nat.ble m (klim k)) false) (natV k (Nat.div m n)) (.k .bad)) bad2
noncomputable def quoV : Int → IntKind → Int → AV := Int.rec (motive := fun _ => IntKind → Int → AV) (fun m k b => quoP b k m) bad1
noncomputable def remP : Int → IntKind → Nat → AV := Int.rec (motive := fun _ => IntKind → Nat → AV) (fun n k m => ifv (Nat.blt 0 n) (natV k (Nat.mod m n)) (.k .bad)) bad2
noncomputable def remV : Int → IntKind → Int → AV := Int.rec (motive := fun _ => IntKind → Int → AV) (fun m k b => remP b k m) bad1
noncomputable def andP : Int → IntKind → Nat → AV := Int.rec (motive := fun _ => IntKind → Nat → AV) (fun n k m => ifv (ifb (Nat.ble m (klim k)) (Nat.ble n (klim k)) false) (natV k (Nat.land m n)) (.k .bad)) bad2
noncomputable def andV : Int → IntKind → Int → AV := Int.rec (motive := fun _ => IntKind → Int → AV) (fun m k b => andP b k m) bad1
noncomputable def shrP : Int → IntKind → Nat → AV := Int.rec (motive := fun _ => IntKind → Nat → AV) (fun n k m => ifv (ifb (Nat.ble m (klim k)) (Nat.ble n 63) false) (natV k (Nat.shiftRight m n)) (.k .bad)) bad2
noncomputable def shrV : Int → IntKind → Int → AV := Int.rec (motive := fun _ => IntKind → Int → AV) (fun m k b => shrP b k m) bad1
noncomputable def cvV : Int → IntKind → AV := Int.rec (motive := fun _ => IntKind → AV) (fun m k => ifv (Nat.ble m (klim k)) (natV k m) (wrapV k (Int.ofNat m))) (fun m k => wrapV k (Int.negSucc m))

noncomputable def frcC : Kc → (AV → Bool) → Bool := Kc.rec (motive := fun _ => (AV → Bool) → Bool) (fun _ => false) (fun K => K (.k .u)) (fun K => K (.k .x)) (fun K => K (.k .pn)) (fun K => K (.k .sln)) (fun K => K (.k .mn)) (fun K => K (.k .fnn)) (fun K => K (.k .ifn))
noncomputable def fi1 (k : IntKind) (K : AV → Bool) (n : Nat) : Bool := K (.i k (Int.ofNat n))
noncomputable def fi2 (k : IntKind) (K : AV → Bool) (n : Nat) : Bool := K (.i k (Int.negSucc n))
noncomputable def frcI : Int → IntKind → (AV → Bool) → Bool := Int.rec (motive := fun _ => IntKind → (AV → Bool) → Bool) (fun m k K => frc m (fi1 k K)) (fun m k K => frc m (fi2 k K))
noncomputable def fp1 (k : BK) (K : AV → Bool) (n : Nat) : Bool := K (.p k n)
noncomputable def fs3 (k : BK) (o n : Nat) (K : AV → Bool) (c : Nat) : Bool := K (.sl k o n (.kn c))
noncomputable def fsc : Cp → BK → Nat → Nat → (AV → Bool) → Bool := Cp.rec (motive := fun _ => BK → Nat → Nat → (AV → Bool) → Bool) (fun c k o n K => frc c (fs3 k o n K)) (fun z k o n K => K (.sl k o n (.un z)))
noncomputable def fs2 (k : BK) (o : Nat) (c : Cp) (K : AV → Bool) (n : Nat) : Bool := fsc c k o n K
noncomputable def fs1 (k : BK) (n : Nat) (c : Cp) (K : AV → Bool) (o : Nat) : Bool := frc n (fs2 k o c K)
noncomputable def fb1 : Bool → (AV → Bool) → Bool := Bool.rec (motive := fun _ => (AV → Bool) → Bool) (fun K => K (.b false)) (fun K => K (.b true))
/-- a value brought to its form -/
noncomputable def frcV : AV → (AV → Bool) → Bool := AV.rec (motive_1 := fun _ => (AV → Bool) → Bool) (motive_2 := fun _ => Unit) (fun x0 K => frcC x0 K) (fun x0 K => fb1 x0 K) (fun x0 x1 K => frcI x1 x0 K) (fun x0 K => K (.s x0)) (fun x0 x1 K => frc x1 (fp1 x0 K)) (fun x0 x1 x2 x3 K => frc x1 (fs1 x0 x2 x3 K)) (fun x0 K => K (.m x0)) (fun x0 x1 x2 _ _ K => K (.fn x0 x1 x2)) (fun x0 x1 _ K => K (.iface x0 x1)) (fun x0 _ K => K (.agg x0)) (fun x0 _ K => K (.tup x0)) (fun x0 x1 x2 _ K => K (.q x0 x1 x2)) () (fun _ _ _ _ => ())
/-- a bool; the tests behind it ask first whether it is one -/
noncomputable def vBool : AV → Bool := AV.rec (motive_1 := fun _ => Bool) (motive_2 := fun _ => Unit) (fun _ => false) (fun x0 => x0) (fun _ _ => false) (fun _ => false) (fun _ _ => false) (fun _ _ _ _ => false) (fun _ => false) (fun _ _ _ _ _ => false) (fun _ _ _ => false) (fun _ _ => false) (fun _ _ => false) (fun _ _ _ _ => false) () (fun _ _ _ _ => ())
noncomputable def isB : AV → Bool := AV.rec (motive_1 := fun _ => Bool) (motive_2 := fun _ => Unit) (fun _ => false) (fun _ => true) (fun _ _ => false) (fun _ => false) (fun _ _ => false) (fun _ _ _ _ => false) (fun _ => false) (fun _ _ _ _ _ => false) (fun _ _ _ => false) (fun _ _ => false) (fun _ _ => false) (fun _ _ _ _ => false) () (fun _ _ _ _ => ())
noncomputable def kcNil : Kc → Bool := Kc.rec (motive := fun _ => Bool) (false) (false) (false) (true) (true) (true) (true) (true)
noncomputable def kNo : Kc → Nat := Kc.rec (motive := fun _ => Nat) (0) (1) (2) (3) (4) (5) (6) (7)
noncomputable def kcKd : Kc → Nat := Kc.rec (motive := fun _ => Nat) (0) (0) (0) (1) (2) (3) (4) (5)
/-- is it nil (ne: is it not), of a kind (1: pointers, 2: slices, 3: maps, 4: functions, 5: interfaces) -/
noncomputable def nilV : AV → Nat → Bool → AV := AV.rec (motive_1 := fun _ => Nat → Bool → AV) (motive_2 := fun _ => Unit) (fun x0 kd ne => ifv (ifb (kcNil x0) (Nat.beq (kcKd x0) kd) false) (.b (notb ne)) (.k .bad)) (fun _ _ _ => .k .bad) (fun _ _ _ _ => .k .bad) (fun _ _ _ => .k .bad) (fun _ _ kd ne => ifv (Nat.beq kd 1) (.b ne) (.k .bad)) (fun _ _ _ _ kd ne => ifv (Nat.beq kd 2) (.b ne) (.k .bad)) (fun _ kd ne => ifv (Nat.beq kd 3) (.b ne) (.k .bad)) (fun _ _ _ _ _ kd ne => ifv (Nat.beq kd 4) (.b ne) (.k .bad)) (fun _ _ _ kd ne => ifv (Nat.beq kd 5) (.b ne) (.k .bad)) (fun _ _ _ _ => .k .bad) (fun _ _ _ _ => .k .bad) (fun _ _ _ _ _ _ => .k .bad) () (fun _ _ _ _ => ())
noncomputable def seqI : AV → IntKind → Int → AV := AV.rec (motive_1 := fun _ => IntKind → Int → AV) (motive_2 := fun _ => Unit) (fun _ _ _ => .k .bad) (fun _ _ _ => .k .bad) (fun x0 x1 k n => ifv (kq k x0) (.b (ieq n x1)) (.k .bad)) (fun _ _ _ => .k .bad) (fun _ _ _ _ => .k .bad) (fun _ _ _ _ _ _ => .k .bad) (fun _ _ _ => .k .bad) (fun _ _ _ _ _ _ _ => .k .bad) (fun _ _ _ _ _ => .k .bad) (fun _ _ _ _ => .k .bad) (fun _ _ _ _ => .k .bad) (fun _ _ _ _ _ _ => .k .bad) () (fun _ _ _ _ => ())
noncomputable def seqS : AV → List Nat → AV := AV.rec (motive_1 := fun _ => List Nat → AV) (motive_2 := fun _ => Unit) (fun _ _ => .k .bad) (fun _ _ => .k .bad) (fun _ _ _ => .k .bad) (fun x0 l => .b (leq l x0)) (fun _ _ _ => .k .bad) (fun _ _ _ _ _ => .k .bad) (fun _ _ => .k .bad) (fun _ _ _ _ _ _ => .k .bad) (fun _ _ _ _ => .k .bad) (fun _ _ _ => .k .bad) (fun _ _ _ => .k .bad) (fun _ _ _ _ _ => .k .bad) () (fun _ _ _ _ => ())
noncomputable def seqB : AV → Bool → AV := AV.rec (motive_1 := fun _ => Bool → AV) (motive_2 := fun _ => Unit) (fun _ _ => .k .bad) (fun x0 y => .b (eqb y x0)) (fun _ _ _ => .k .bad) (fun _ _ => .k .bad) (fun _ _ _ => .k .bad) (fun _ _ _ _ _ => .k .bad) (fun _ _ => .k .bad) (fun _ _ _ _ _ _ => .k .bad) (fun _ _ _ _ => .k .bad) (fun _ _ _ => .k .bad) (fun _ _ _ => .k .bad) (fun _ _ _ _ _ => .k .bad) () (fun _ _ _ _ => ())
/-- equal scalars of a kind (0: integers, 1: strings, 2: bools) -/
noncomputable def seqV : AV → Nat → AV → AV := AV.rec (motive_1 := fun _ => Nat → AV → AV) (motive_2 := fun _ => Unit) (fun _ _ _ => .k .bad) (fun x0 kd w => ifv (Nat.beq kd 2) (seqB w x0) (.k .bad)) (fun x0 x1 kd w => ifv (Nat.beq kd 0) (seqI w x0 x1) (.k .bad)) (fun x0 kd w => ifv (Nat.beq kd 1) (seqS w x0) (.k .bad)) (fun _ _ _ _ => .k .bad) (fun _ _ _ _ _ _ => .k .bad) (fun _ _ _ => .k .bad) (fun _ _ _ _ _ _ _ => .k .bad) (fun _ _ _ _ _ => .k .bad) (fun _ _ _ _ => .k .bad) (fun _ _ _ _ => .k .bad) (fun _ _ _ _ _ _ => .k .bad) () (fun _ _ _ _ => ())
noncomputable def andV2 : AV → AV → AV := AV.rec (motive_1 := fun _ => AV → AV) (motive_2 := fun _ => Unit) (fun _ _ => .k .bad) (fun x0 r => ifv x0 r (.b false)) (fun _ _ _ => .k .bad) (fun _ _ => .k .bad) (fun _ _ _ => .k .bad) (fun _ _ _ _ _ => .k .bad) (fun _ _ => .k .bad) (fun _ _ _ _ _ _ => .k .bad) (fun _ _ _ _ => .k .bad) (fun _ _ _ => .k .bad) (fun _ _ _ => .k .bad) (fun _ _ _ _ _ => .k .bad) () (fun _ _ _ _ => ())
/-- equal rows of scalars -/
noncomputable def aeqV : List Nat → List AV → List AV → AV := List.rec (motive := fun _ => List AV → List AV → AV) (fun l m => ifv (ifb (nul l) (nul m) false) (.b true) (.k .bad))
  (fun kd _ ih l m => andV2 (seqV (hdD l) kd (hdD m)) (ih (tlD l) (tlD m)))
noncomputable def hdN : List Nat → Nat := List.rec (motive := fun _ => Nat) 9 (fun x _ _ => x)
noncomputable def aggEq : AV → List Nat → List AV → AV := AV.rec (motive_1 := fun _ => List Nat → List AV → AV) (motive_2 := fun _ => Unit) (fun _ _ _ => .k .bad) (fun _ _ _ => .k .bad) (fun _ _ _ _ => .k .bad) (fun _ _ _ => .k .bad) (fun _ _ _ _ => .k .bad) (fun _ _ _ _ _ _ => .k .bad) (fun _ _ _ => .k .bad) (fun _ _ _ _ _ _ _ => .k .bad) (fun _ _ _ _ _ => .k .bad) (fun x0 _ ks l => aeqV ks l x0) (fun _ _ _ _ => .k .bad) (fun _ _ _ _ _ _ => .k .bad) () (fun _ _ _ _ => ())
noncomputable def aggEqV : AV → List Nat → AV → AV := AV.rec (motive_1 := fun _ => List Nat → AV → AV) (motive_2 := fun _ => Unit) (fun _ _ _ => .k .bad) (fun _ _ _ => .k .bad) (fun _ _ _ _ => .k .bad) (fun _ _ _ => .k .bad) (fun _ _ _ _ => .k .bad) (fun _ _ _ _ _ _ => .k .bad) (fun _ _ _ => .k .bad) (fun _ _ _ _ _ _ _ => .k .bad) (fun _ _ _ _ _ => .k .bad) (fun x0 _ ks w => aggEq w ks x0) (fun _ _ _ _ => .k .bad) (fun _ _ _ _ _ _ => .k .bad) () (fun _ _ _ _ => ())
/-- equal keys: rows of scalars (g), or scalars -/
noncomputable def keqV (v : AV) (g : Bool) (ks : List Nat) (w : AV) : AV := ifv g (aggEqV v ks w) (seqV v (hdN ks) w)
/-- turned about, if ne -/
noncomputable def notV : AV → Bool → AV := AV.rec (motive_1 := fun _ => Bool → AV) (motive_2 := fun _ => Unit) (fun _ _ => .k .bad) (fun x0 ne => .b (eqb ne (notb x0))) (fun _ _ _ => .k .bad) (fun _ _ => .k .bad) (fun _ _ _ => .k .bad) (fun _ _ _ _ _ => .k .bad) (fun _ _ => .k .bad) (fun _ _ _ _ _ _ => .k .bad) (fun _ _ _ _ => .k .bad) (fun _ _ _ => .k .bad) (fun _ _ _ => .k .bad) (fun _ _ _ _ _ => .k .bad) () (fun _ _ _ _ => ())
noncomputable def iopV : BinOp → IntKind → Int → Int → AV := BinOp.rec (motive := fun _ => IntKind → Int → Int → AV) (fun k m n => addV m k n) (fun k m n => subV m k n) (fun k m n => mulV m k n) (fun k m n => quoV m k n) (fun k m n => remV m k n) (fun k m n => andV m k n) (fun _ _ _ => .k .bad) (fun _ _ _ => .k .bad) (fun _ _ _ => .k .bad) (fun k m n => shrV m k n) (fun _ _ _ => .k .bad) (fun _ m n => .b (ieq m n)) (fun _ m n => .b (notb (ieq m n))) (fun _ m n => .b (ilt m n)) (fun _ m n => .b (notb (ilt n m))) (fun _ m n => .b (ilt n m)) (fun _ m n => .b (notb (ilt m n)))
noncomputable def appD : List Nat → List Nat → List Nat := List.rec (motive := fun _ => List Nat → List Nat) (fun b => b) (fun x _ ih b => x :: ih b)
noncomputable def sopV : BinOp → List Nat → List Nat → AV := BinOp.rec (motive := fun _ => List Nat → List Nat → AV) (fun a b => .s (appD a b)) (fun _ _ => .k .bad) (fun _ _ => .k .bad) (fun _ _ => .k .bad) (fun _ _ => .k .bad) (fun _ _ => .k .bad) (fun _ _ => .k .bad) (fun _ _ => .k .bad) (fun _ _ => .k .bad) (fun _ _ => .k .bad) (fun _ _ => .k .bad) (fun a b => .b (leq a b)) (fun a b => .b (notb (leq a b))) (fun a b => .b (llt a b)) (fun _ _ => .k .bad) (fun a b => .b (llt b a)) (fun _ _ => .k .bad)
noncomputable def qfind : List (Bool × Nat) → Bool → Nat → List AV → AV := List.rec (motive := fun _ => Bool → Nat → List AV → AV) (fun _ _ _ => .k .bad)
  (fun x _ ih r n l => ifv (ifb (eqb r x.1) (Nat.beq x.2 n) false) (hdD l) (ih r n (tlD l)))
noncomputable def qdiv : Int → Bool → List (Bool × Nat) → List AV → AV := Int.rec (motive := fun _ => Bool → List (Bool × Nat) → List AV → AV) (fun n r t l => qfind t r n l) (fun _ _ _ _ => .k .bad)
noncomputable def qopV : BinOp → List (Bool × Nat) → List AV → Int → AV := BinOp.rec (motive := fun _ => List (Bool × Nat) → List AV → Int → AV) (fun _ _ _ => .k .bad) (fun _ _ _ => .k .bad) (fun _ _ _ => .k .bad) (fun t l n => qdiv n false t l) (fun t l n => qdiv n true t l) (fun _ _ _ => .k .bad) (fun _ _ _ => .k .bad) (fun _ _ _ => .k .bad) (fun _ _ _ => .k .bad) (fun _ _ _ => .k .bad) (fun _ _ _ => .k .bad) (fun _ _ _ => .k .bad) (fun _ _ _ => .k .bad) (fun _ _ _ => .k .bad) (fun _ _ _ => .k .bad) (fun _ _ _ => .k .bad) (fun _ _ _ => .k .bad)
noncomputable def ibW : AV → BinOp → IntKind → Int → AV := AV.rec (motive_1 := fun _ => BinOp → IntKind → Int → AV) (motive_2 := fun _ => Unit) (fun _ _ _ _ => .k .bad) (fun _ _ _ _ => .k .bad) (fun x0 x1 op k m => ifv (kq k x0) (iopV op k m x1) (.k .bad)) (fun _ _ _ _ => .k .bad) (fun _ _ _ _ _ => .k .bad) (fun _ _ _ _ _ _ _ => .k .bad) (fun _ _ _ _ => .k .bad) (fun _ _ _ _ _ _ _ _ => .k .bad) (fun _ _ _ _ _ _ => .k .bad) (fun _ _ _ _ _ => .k .bad) (fun _ _ _ _ _ => .k .bad) (fun _ _ _ _ _ _ _ => .k .bad) () (fun _ _ _ _ => ())
noncomputable def iqW : AV → BinOp → IntKind → List (Bool × Nat) → List AV → AV := AV.rec (motive_1 := fun _ => BinOp → IntKind → List (Bool × Nat) → List AV → AV) (motive_2 := fun _ => Unit) (fun _ _ _ _ _ => .k .bad) (fun _ _ _ _ _ => .k .bad) (fun x0 x1 op k t l => ifv (kq k x0) (qopV op t l x1) (.k .bad)) (fun _ _ _ _ _ => .k .bad) (fun _ _ _ _ _ _ => .k .bad) (fun _ _ _ _ _ _ _ _ => .k .bad) (fun _ _ _ _ _ => .k .bad) (fun _ _ _ _ _ _ _ _ _ => .k .bad) (fun _ _ _ _ _ _ _ => .k .bad) (fun _ _ _ _ _ _ => .k .bad) (fun _ _ _ _ _ _ => .k .bad) (fun _ _ _ _ _ _ _ _ => .k .bad) () (fun _ _ _ _ => ())
/-- two integers -/
noncomputable def ibV : AV → BinOp → AV → AV := AV.rec (motive_1 := fun _ => BinOp → AV → AV) (motive_2 := fun _ => Unit) (fun _ _ _ => .k .bad) (fun _ _ _ => .k .bad) (fun x0 x1 op w => ibW w op x0 x1) (fun _ _ _ => .k .bad) (fun _ _ _ _ => .k .bad) (fun _ _ _ _ _ _ => .k .bad) (fun _ _ _ => .k .bad) (fun _ _ _ _ _ _ _ => .k .bad) (fun _ _ _ _ _ => .k .bad) (fun _ _ _ _ => .k .bad) (fun _ _ _ _ => .k .bad) (fun x0 x1 x2 _ op w => iqW w op x0 x1 x2) () (fun _ _ _ _ => ())
noncomputable def sbW : AV → BinOp → List Nat → AV := AV.rec (motive_1 := fun _ => BinOp → List Nat → AV) (motive_2 := fun _ => Unit) (fun _ _ _ => .k .bad) (fun _ _ _ => .k .bad) (fun _ _ _ _ => .k .bad) (fun x0 op l => sopV op l x0) (fun _ _ _ _ => .k .bad) (fun _ _ _ _ _ _ => .k .bad) (fun _ _ _ => .k .bad) (fun _ _ _ _ _ _ _ => .k .bad) (fun _ _ _ _ _ => .k .bad) (fun _ _ _ _ => .k .bad) (fun _ _ _ _ => .k .bad) (fun _ _ _ _ _ _ => .k .bad) () (fun _ _ _ _ => ())
/-- two strings -/
noncomputable def sbV : AV → BinOp → AV → AV := AV.rec (motive_1 := fun _ => BinOp → AV → AV) (motive_2 := fun _ => Unit) (fun _ _ _ => .k .bad) (fun _ _ _ => .k .bad) (fun _ _ _ _ => .k .bad) (fun x0 op w => sbW w op x0) (fun _ _ _ _ => .k .bad) (fun _ _ _ _ _ _ => .k .bad) (fun _ _ _ => .k .bad) (fun _ _ _ _ _ _ _ => .k .bad) (fun _ _ _ _ _ => .k .bad) (fun _ _ _ _ => .k .bad) (fun _ _ _ _ => .k .bad) (fun _ _ _ _ _ _ => .k .bad) () (fun _ _ _ _ => ())
noncomputable def bbW : AV → Bool → Bool → AV := AV.rec (motive_1 := fun _ => Bool → Bool → AV) (motive_2 := fun _ => Unit) (fun _ _ _ => .k .bad) (fun x0 ne l => .b (eqb ne (notb (eqb l x0)))) (fun _ _ _ _ => .k .bad) (fun _ _ _ => .k .bad) (fun _ _ _ _ => .k .bad) (fun _ _ _ _ _ _ => .k .bad) (fun _ _ _ => .k .bad) (fun _ _ _ _ _ _ _ => .k .bad) (fun _ _ _ _ _ => .k .bad) (fun _ _ _ _ => .k .bad) (fun _ _ _ _ => .k .bad) (fun _ _ _ _ _ _ => .k .bad) () (fun _ _ _ _ => ())
/-- two bools -/
noncomputable def bbV : AV → Bool → AV → AV := AV.rec (motive_1 := fun _ => Bool → AV → AV) (motive_2 := fun _ => Unit) (fun _ _ _ => .k .bad) (fun x0 ne w => bbW w ne x0) (fun _ _ _ _ => .k .bad) (fun _ _ _ => .k .bad) (fun _ _ _ _ => .k .bad) (fun _ _ _ _ _ _ => .k .bad) (fun _ _ _ => .k .bad) (fun _ _ _ _ _ _ _ => .k .bad) (fun _ _ _ _ _ => .k .bad) (fun _ _ _ _ => .k .bad) (fun _ _ _ _ => .k .bad) (fun _ _ _ _ _ _ => .k .bad) () (fun _ _ _ _ => ())
noncomputable def pickV : AV → AV → AV → AV := AV.rec (motive_1 := fun _ => AV → AV → AV) (motive_2 := fun _ => Unit) (fun _ _ _ => .k .bad) (fun x0 a b => ifv x0 a b) (fun _ _ _ _ => .k .bad) (fun _ _ _ => .k .bad) (fun _ _ _ _ => .k .bad) (fun _ _ _ _ _ _ => .k .bad) (fun _ _ _ => .k .bad) (fun _ _ _ _ _ _ _ => .k .bad) (fun _ _ _ _ _ => .k .bad) (fun _ _ _ _ => .k .bad) (fun _ _ _ _ => .k .bad) (fun _ _ _ _ _ _ => .k .bad) () (fun _ _ _ _ => ())
noncomputable def notV1 : AV → AV := AV.rec (motive_1 := fun _ => AV) (motive_2 := fun _ => Unit) (fun _ => .k .bad) (fun x0 => .b (notb x0)) (fun _ _ => .k .bad) (fun _ => .k .bad) (fun _ _ => .k .bad) (fun _ _ _ _ => .k .bad) (fun _ => .k .bad) (fun _ _ _ _ _ => .k .bad) (fun _ _ _ => .k .bad) (fun _ _ => .k .bad) (fun _ _ => .k .bad) (fun _ _ _ _ => .k .bad) () (fun _ _ _ _ => ())
noncomputable def negV : AV → AV := AV.rec (motive_1 := fun _ => AV) (motive_2 := fun _ => Unit) (fun _ => .k .bad) (fun _ => .k .bad) (fun x0 x1 => subV 0 x0 x1) (fun _ => .k .bad) (fun _ _ => .k .bad) (fun _ _ _ _ => .k .bad) (fun _ => .k .bad) (fun _ _ _ _ _ => .k .bad) (fun _ _ _ => .k .bad) (fun _ _ => .k .bad) (fun _ _ => .k .bad) (fun _ _ _ _ => .k .bad) () (fun _ _ _ _ => ())
/-- an answer, of another kind -/
noncomputable def cvA (k : IntKind) : AV → AV := AV.rec (motive_1 := fun _ => AV) (motive_2 := fun _ => Unit) (fun _ => .k .x) (fun _ => .k .x) (fun _ n => .i k n) (fun _ => .k .x) (fun _ _ => .k .x) (fun _ _ _ _ => .k .x) (fun _ => .k .x) (fun _ _ _ _ _ => .k .x) (fun _ _ _ => .k .x) (fun _ _ => .k .x) (fun _ _ => .k .x) (fun _ _ _ _ => .k .x) () (fun _ _ _ _ => ())
noncomputable def cvAs (k : IntKind) : List AV → List AV := List.rec (motive := fun _ => List AV) [] (fun x _ ih => cvA k x :: ih)
noncomputable def cvtV : AV → IntKind → AV := AV.rec (motive_1 := fun _ => IntKind → AV) (motive_2 := fun _ => Unit) (fun _ _ => .k .bad) (fun _ _ => .k .bad) (fun _ x1 k => cvV x1 k) (fun _ _ => .k .bad) (fun _ _ _ => .k .bad) (fun _ _ _ _ _ => .k .bad) (fun _ _ => .k .bad) (fun _ _ _ _ _ _ => .k .bad) (fun _ _ _ _ => .k .bad) (fun _ _ _ => .k .bad) (fun _ _ _ => .k .bad) (fun x0 x1 x2 _ k => ifv (Nat.ble (klim x0) (klim k)) (.q k x1 (cvAs k x2)) (.k .bad)) () (fun _ _ _ _ => ())
noncomputable def i2sN (m : Nat) : AV := ifv (Nat.blt m 128) (.s [m]) (.k .bad)
noncomputable def i2sV : AV → AV := AV.rec (motive_1 := fun _ => AV) (motive_2 := fun _ => Unit) (fun _ => .k .bad) (fun _ => .k .bad) (fun _ x1 => inatV x1 i2sN) (fun _ => .k .bad) (fun _ _ => .k .bad) (fun _ _ _ _ => .k .bad) (fun _ => .k .bad) (fun _ _ _ _ _ => .k .bad) (fun _ _ _ => .k .bad) (fun _ _ => .k .bad) (fun _ _ => .k .bad) (fun _ _ _ _ => .k .bad) () (fun _ _ _ _ => ())
noncomputable def ncV : AV → AV := AV.rec (motive_1 := fun _ => AV) (motive_2 := fun _ => Unit) (fun _ => .k .bad) (fun _ => .k .bad) (fun _ _ => .k .bad) (fun _ => .k .bad) (fun x0 x1 => .p x0 x1) (fun _ _ _ _ => .k .bad) (fun _ => .k .bad) (fun _ _ _ _ _ => .k .bad) (fun _ _ _ => .k .bad) (fun _ _ => .k .bad) (fun _ _ => .k .bad) (fun _ _ _ _ => .k .bad) () (fun _ _ _ _ => ())
noncomputable def faV : AV → Nat → AV := AV.rec (motive_1 := fun _ => Nat → AV) (motive_2 := fun _ => Unit) (fun _ _ => .k .bad) (fun _ _ => .k .bad) (fun _ _ _ => .k .bad) (fun _ _ => .k .bad) (fun x0 x1 o => .p x0 (Nat.add x1 o)) (fun _ _ _ _ _ => .k .bad) (fun _ _ => .k .bad) (fun _ _ _ _ _ _ => .k .bad) (fun _ _ _ _ => .k .bad) (fun _ _ _ => .k .bad) (fun _ _ _ => .k .bad) (fun _ _ _ _ _ => .k .bad) () (fun _ _ _ _ => ())
noncomputable def iaS : AV → Nat → Nat → AV := AV.rec (motive_1 := fun _ => Nat → Nat → AV) (motive_2 := fun _ => Unit) (fun _ _ _ => .k .bad) (fun _ _ _ => .k .bad) (fun _ _ _ _ => .k .bad) (fun _ _ _ => .k .bad) (fun _ _ _ _ => .k .bad) (fun x0 x1 x2 _ sz n => ifv (Nat.blt n x2) (.p x0 (Nat.add x1 (Nat.mul n sz))) (.k .bad)) (fun _ _ _ => .k .bad) (fun _ _ _ _ _ _ _ => .k .bad) (fun _ _ _ _ _ => .k .bad) (fun _ _ _ _ => .k .bad) (fun _ _ _ _ => .k .bad) (fun _ _ _ _ _ _ => .k .bad) () (fun _ _ _ _ => ())
noncomputable def iaN : Int → Nat → AV → AV := Int.rec (motive := fun _ => Nat → AV → AV) (fun n sz v => iaS v sz n) (fun _ _ _ => .k .bad)
/-- the place of an element of a slice -/
noncomputable def iaV : AV → Nat → AV → AV := AV.rec (motive_1 := fun _ => Nat → AV → AV) (motive_2 := fun _ => Unit) (fun _ _ _ => .k .bad) (fun _ _ _ => .k .bad) (fun _ x1 sz v => iaN x1 sz v) (fun _ _ _ => .k .bad) (fun _ _ _ _ => .k .bad) (fun _ _ _ _ _ _ => .k .bad) (fun _ _ _ => .k .bad) (fun _ _ _ _ _ _ _ => .k .bad) (fun _ _ _ _ _ => .k .bad) (fun _ _ _ _ => .k .bad) (fun _ _ _ _ => .k .bad) (fun _ _ _ _ _ _ => .k .bad) () (fun _ _ _ _ => ())
noncomputable def iaaS : AV → Nat → Nat → Nat → AV := AV.rec (motive_1 := fun _ => Nat → Nat → Nat → AV) (motive_2 := fun _ => Unit) (fun _ _ _ _ => .k .bad) (fun _ _ _ _ => .k .bad) (fun _ _ _ _ _ => .k .bad) (fun _ _ _ _ => .k .bad) (fun x0 x1 sz len n => ifv (Nat.blt n len) (.p x0 (Nat.add x1 (Nat.mul n sz))) (.k .bad)) (fun _ _ _ _ _ _ _ => .k .bad) (fun _ _ _ _ => .k .bad) (fun _ _ _ _ _ _ _ _ => .k .bad) (fun _ _ _ _ _ _ => .k .bad) (fun _ _ _ _ _ => .k .bad) (fun _ _ _ _ _ => .k .bad) (fun _ _ _ _ _ _ _ => .k .bad) () (fun _ _ _ _ => ())
noncomputable def iaaN : Int → Nat → Nat → AV → AV := Int.rec (motive := fun _ => Nat → Nat → AV → AV) (fun n sz len v => iaaS v sz len n) (fun _ _ _ _ => .k .bad)
noncomputable def iaaV : AV → Nat → Nat → AV → AV := AV.rec (motive_1 := fun _ => Nat → Nat → AV → AV) (motive_2 := fun _ => Unit) (fun _ _ _ _ => .k .bad) (fun _ _ _ _ => .k .bad) (fun _ x1 sz len v => iaaN x1 sz len v) (fun _ _ _ _ => .k .bad) (fun _ _ _ _ _ => .k .bad) (fun _ _ _ _ _ _ _ => .k .bad) (fun _ _ _ _ => .k .bad) (fun _ _ _ _ _ _ _ _ => .k .bad) (fun _ _ _ _ _ _ => .k .bad) (fun _ _ _ _ _ => .k .bad) (fun _ _ _ _ _ => .k .bad) (fun _ _ _ _ _ _ _ => .k .bad) () (fun _ _ _ _ => ())
noncomputable def ixS : AV → Nat → AV := AV.rec (motive_1 := fun _ => Nat → AV) (motive_2 := fun _ => Unit) (fun _ _ => .k .bad) (fun _ _ => .k .bad) (fun _ _ _ => .k .bad) (fun x0 n => nthN n x0) (fun _ _ _ => .k .bad) (fun _ _ _ _ _ => .k .bad) (fun _ _ => .k .bad) (fun _ _ _ _ _ _ => .k .bad) (fun _ _ _ _ => .k .bad) (fun _ _ _ => .k .bad) (fun _ _ _ => .k .bad) (fun _ _ _ _ _ => .k .bad) () (fun _ _ _ _ => ())
noncomputable def ixN : Int → AV → AV := Int.rec (motive := fun _ => AV → AV) (fun n v => ixS v n) (fun _ _ => .k .bad)
/-- a byte of a string -/
noncomputable def ixV : AV → AV → AV := AV.rec (motive_1 := fun _ => AV → AV) (motive_2 := fun _ => Unit) (fun _ _ => .k .bad) (fun _ _ => .k .bad) (fun _ x1 v => ixN x1 v) (fun _ _ => .k .bad) (fun _ _ _ => .k .bad) (fun _ _ _ _ _ => .k .bad) (fun _ _ => .k .bad) (fun _ _ _ _ _ _ => .k .bad) (fun _ _ _ _ => .k .bad) (fun _ _ _ => .k .bad) (fun _ _ _ => .k .bad) (fun _ _ _ _ _ => .k .bad) () (fun _ _ _ _ => ())
noncomputable def extV : AV → Nat → AV := AV.rec (motive_1 := fun _ => Nat → AV) (motive_2 := fun _ => Unit) (fun _ _ => .k .bad) (fun _ _ => .k .bad) (fun _ _ _ => .k .bad) (fun _ _ => .k .bad) (fun _ _ _ => .k .bad) (fun _ _ _ _ _ => .k .bad) (fun _ _ => .k .bad) (fun _ _ _ _ _ _ => .k .bad) (fun _ _ _ _ => .k .bad) (fun _ _ _ => .k .bad) (fun x0 _ j => nthD j x0) (fun _ _ _ _ _ => .k .bad) () (fun _ _ _ _ => ())
noncomputable def tgX : Tg → Nat → Nat → Bool := Tg.rec (motive := fun _ => Nat → Nat → Bool) (fun _ _ => false) (fun t n t' n' => ifb (Nat.beq t t') (Nat.beq n n') false) (fun _ _ _ => false)
noncomputable def tgR : Tg → Nat → Bool := Tg.rec (motive := fun _ => Nat → Bool) (fun _ => false) (fun _ _ _ => false) (fun t t' => Nat.beq t t')
noncomputable def tgO : Tg → Bool := Tg.rec (motive := fun _ => Bool) true (fun _ _ => false) (fun _ => false)
noncomputable def sameT : Tg → Tg → Bool := Tg.rec (motive := fun _ => Tg → Bool) (fun u => tgO u) (fun t n u => tgX u t n) (fun t u => tgR u t)
noncomputable def obL : Ob → List AV := Ob.rec (motive := fun _ => List AV) [] (fun _ l => l) (fun _ => []) (fun _ _ _ _ => [])
noncomputable def obNth : Ob → Nat → AV := Ob.rec (motive := fun _ => Nat → AV) (fun _ => .k .bad) (fun _ l o => nthD o l) (fun _ _ => .k .bad) (fun _ _ _ _ _ => .k .bad)
noncomputable def obLen : Ob → AV := Ob.rec (motive := fun _ => AV) (.k .bad) (fun _ _ => .k .bad) (fun l => .i .i64 (Int.ofNat (lenD l))) (fun _ _ _ _ => .k .bad)
/-- a cell read -/
noncomputable def ldV : AV → Heap → AV := AV.rec (motive_1 := fun _ => Heap → AV) (motive_2 := fun _ => Unit) (fun _ _ => .k .bad) (fun _ _ => .k .bad) (fun _ _ _ => .k .bad) (fun _ _ => .k .bad) (fun x0 x1 h => obNth (hat h x0) x1) (fun _ _ _ _ _ => .k .bad) (fun _ _ => .k .bad) (fun _ _ _ _ _ _ => .k .bad) (fun _ _ _ _ => .k .bad) (fun _ _ _ => .k .bad) (fun _ _ _ => .k .bad) (fun _ _ _ _ _ => .k .bad) () (fun _ _ _ _ => ())
noncomputable def lsV : AV → AV := AV.rec (motive_1 := fun _ => AV) (motive_2 := fun _ => Unit) (fun _ => .k .bad) (fun _ => .k .bad) (fun _ _ => .k .bad) (fun x0 => .i .i64 (Int.ofNat (lenD x0))) (fun _ _ => .k .bad) (fun _ _ _ _ => .k .bad) (fun _ => .k .bad) (fun _ _ _ _ _ => .k .bad) (fun _ _ _ => .k .bad) (fun _ _ => .k .bad) (fun _ _ => .k .bad) (fun _ _ _ _ => .k .bad) () (fun _ _ _ _ => ())
noncomputable def llC : Kc → AV := Kc.rec (motive := fun _ => AV) (.k .bad) (.k .bad) (.k .bad) (.k .bad) (.i .i64 (Int.ofNat 0)) (.k .bad) (.k .bad) (.k .bad)
noncomputable def llV : AV → AV := AV.rec (motive_1 := fun _ => AV) (motive_2 := fun _ => Unit) (fun x0 => llC x0) (fun _ => .k .bad) (fun _ _ => .k .bad) (fun _ => .k .bad) (fun _ _ => .k .bad) (fun _ _ x2 _ => .i .i64 (Int.ofNat x2)) (fun _ => .k .bad) (fun _ _ _ _ _ => .k .bad) (fun _ _ _ => .k .bad) (fun _ _ => .k .bad) (fun _ _ => .k .bad) (fun _ _ _ _ => .k .bad) () (fun _ _ _ _ => ())
noncomputable def lmC : Kc → AV := Kc.rec (motive := fun _ => AV) (.k .bad) (.k .bad) (.k .bad) (.k .bad) (.k .bad) (.i .i64 (Int.ofNat 0)) (.k .bad) (.k .bad)
noncomputable def lmV : AV → Heap → AV := AV.rec (motive_1 := fun _ => Heap → AV) (motive_2 := fun _ => Unit) (fun x0 _ => lmC x0) (fun _ _ => .k .bad) (fun _ _ _ => .k .bad) (fun _ _ => .k .bad) (fun _ _ _ => .k .bad) (fun _ _ _ _ _ => .k .bad) (fun x0 h => obLen (hat h x0)) (fun _ _ _ _ _ _ => .k .bad) (fun _ _ _ _ => .k .bad) (fun _ _ _ => .k .bad) (fun _ _ _ => .k .bad) (fun _ _ _ _ _ => .k .bad) () (fun _ _ _ _ => ())
/-- the entry at which an iterator stands -/
noncomputable def enP : AV × AV → AV := Prod.rec (motive := fun _ => AV) fun k v => .tup [k, v]
noncomputable def natR (a : AV) (f : Nat → AV) : Nat → AV := Nat.rec (motive := fun _ => AV) a (fun m _ => f m)
noncomputable def enE : List (AV × AV) → Nat → AV := List.rec (motive := fun _ => Nat → AV) (fun _ => .k .bad) (fun x _ ih n => natR (enP x) ih n)
noncomputable def enS : List Nat → List (AV × AV) → AV := List.rec (motive := fun _ => List (AV × AV) → AV) (fun _ => .k .bad) (fun i _ _ es => enE es i)
noncomputable def enM : Ob → List Nat → Nat → AV := Ob.rec (motive := fun _ => List Nat → Nat → AV) (fun _ _ => .k .bad) (fun _ _ _ _ => .k .bad) (fun es seen last => ifv (Nat.beq (lenD es) last) (enS seen es) (.k .bad)) (fun _ _ _ _ _ _ => .k .bad)
noncomputable def enI : Ob → Heap → AV := Ob.rec (motive := fun _ => Heap → AV) (fun _ => .k .bad) (fun _ _ _ => .k .bad) (fun _ _ => .k .bad) (fun b _ seen last h => enM (hat h b) seen last)
noncomputable def enV : AV → Heap → AV := AV.rec (motive_1 := fun _ => Heap → AV) (motive_2 := fun _ => Unit) (fun _ _ => .k .bad) (fun _ _ => .k .bad) (fun _ _ _ => .k .bad) (fun _ _ => .k .bad) (fun x0 x1 h => ifv (Nat.beq x1 0) (enI (hat h x0) h) (.k .bad)) (fun _ _ _ _ _ => .k .bad) (fun _ _ => .k .bad) (fun _ _ _ _ _ _ => .k .bad) (fun _ _ _ _ => .k .bad) (fun _ _ _ => .k .bad) (fun _ _ _ => .k .bad) (fun _ _ _ _ _ => .k .bad) () (fun _ _ _ _ => ())
/-- a pointer that is turned to another kind of pointer -/
noncomputable def cellB : Ob → Nat → Bool := Ob.rec (motive := fun _ => Nat → Bool) (fun _ => false) (fun _ l o => Nat.blt o (lenD l)) (fun _ _ => false) (fun _ _ _ _ _ => false)
noncomputable def upC : Kc → AV := Kc.rec (motive := fun _ => AV) (.k .bad) (.k .bad) (.k .bad) (.k .pn) (.k .bad) (.k .bad) (.k .bad) (.k .bad)
noncomputable def upV : AV → Heap → AV := AV.rec (motive_1 := fun _ => Heap → AV) (motive_2 := fun _ => Unit) (fun x0 _ => upC x0) (fun _ _ => .k .bad) (fun _ _ _ => .k .bad) (fun _ _ => .k .bad) (fun x0 x1 h => ifv (cellB (hat h x0) x1) (.p x0 x1) (.k .bad)) (fun _ _ _ _ _ => .k .bad) (fun _ _ => .k .bad) (fun _ _ _ _ _ _ => .k .bad) (fun _ _ _ _ => .k .bad) (fun _ _ _ => .k .bad) (fun _ _ _ => .k .bad) (fun _ _ _ _ _ => .k .bad) () (fun _ _ _ _ => ())
noncomputable def inP (t n : Nat) : List (Nat × Nat) → Bool := List.rec (motive := fun _ => Bool) false (fun x _ ih => ifb (Prod.rec (motive := fun _ => Bool) (fun a b => ifb (Nat.beq a t) (Nat.beq b n) false) x) true ih)
noncomputable def tgIn : Tg → List (Nat × Nat) → Bool := Tg.rec (motive := fun _ => List (Nat × Nat) → Bool) (fun _ => false) (fun t n l => inP t n l) (fun _ _ => false)
noncomputable def puB : Ob → List (Nat × Nat) → Bool := Ob.rec (motive := fun _ => List (Nat × Nat) → Bool) (fun _ => false) (fun g _ l => tgIn g l) (fun _ _ => false) (fun _ _ _ _ _ => false)
noncomputable def puV : AV → Heap → List (Nat × Nat) → AV := AV.rec (motive_1 := fun _ => Heap → List (Nat × Nat) → AV) (motive_2 := fun _ => Unit) (fun x0 _ _ => upC x0) (fun _ _ _ => .k .bad) (fun _ _ _ _ => .k .bad) (fun _ _ _ => .k .bad) (fun x0 x1 h ok => ifv (ifb (Nat.beq x1 0) (puB (hat h x0) ok) false) (.p x0 x1) (.k .bad)) (fun _ _ _ _ _ _ => .k .bad) (fun _ _ _ => .k .bad) (fun _ _ _ _ _ _ _ => .k .bad) (fun _ _ _ _ _ => .k .bad) (fun _ _ _ _ => .k .bad) (fun _ _ _ _ => .k .bad) (fun _ _ _ _ _ _ => .k .bad) () (fun _ _ _ _ => ())
noncomputable def peP : AV → BK → Nat → AV := AV.rec (motive_1 := fun _ => BK → Nat → AV) (motive_2 := fun _ => Unit) (fun _ _ _ => .k .bad) (fun _ _ _ => .k .bad) (fun _ _ _ _ => .k .bad) (fun _ _ _ => .k .bad) (fun x0 x1 k o => ifv (ifb (decide (k = x0)) (Nat.beq o x1) false) (.b false) (.k .bad)) (fun _ _ _ _ _ _ => .k .bad) (fun _ _ _ => .k .bad) (fun _ _ _ _ _ _ _ => .k .bad) (fun _ _ _ _ _ => .k .bad) (fun _ _ _ _ => .k .bad) (fun _ _ _ _ => .k .bad) (fun _ _ _ _ _ _ => .k .bad) () (fun _ _ _ _ => ())
noncomputable def peV : AV → AV → AV := AV.rec (motive_1 := fun _ => AV → AV) (motive_2 := fun _ => Unit) (fun _ _ => .k .bad) (fun _ _ => .k .bad) (fun _ _ _ => .k .bad) (fun _ _ => .k .bad) (fun x0 x1 v => peP v x0 x1) (fun _ _ _ _ _ => .k .bad) (fun _ _ => .k .bad) (fun _ _ _ _ _ _ => .k .bad) (fun _ _ _ _ => .k .bad) (fun _ _ _ => .k .bad) (fun _ _ _ => .k .bad) (fun _ _ _ _ _ => .k .bad) () (fun _ _ _ _ => ())
noncomputable def sdC : Kc → AV := Kc.rec (motive := fun _ => AV) (.k .bad) (.k .bad) (.k .bad) (.k .bad) (.k .pn) (.k .bad) (.k .bad) (.k .bad)
noncomputable def sdV : AV → AV := AV.rec (motive_1 := fun _ => AV) (motive_2 := fun _ => Unit) (fun x0 => sdC x0) (fun _ => .k .bad) (fun _ _ => .k .bad) (fun _ => .k .bad) (fun _ _ => .k .bad) (fun x0 x1 x2 _ => ifv (Nat.beq x2 0) (.k .bad) (.p x0 x1)) (fun _ => .k .bad) (fun _ _ _ _ _ => .k .bad) (fun _ _ _ => .k .bad) (fun _ _ => .k .bad) (fun _ _ => .k .bad) (fun _ _ _ _ => .k .bad) () (fun _ _ _ _ => ())
noncomputable def kokV (ok : Bool) (v : AV) (t : Bool) : AV := ifv ok (.tup [v, .b t]) v
noncomputable def mfT : AV → AV → AV → Bool → AV := AV.rec (motive_1 := fun _ => AV → AV → Bool → AV) (motive_2 := fun _ => Unit) (fun _ _ _ _ => .k .bad) (fun x0 v z ok => ifv x0 (kokV ok v true) z) (fun _ _ _ _ _ => .k .bad) (fun _ _ _ _ => .k .bad) (fun _ _ _ _ _ => .k .bad) (fun _ _ _ _ _ _ _ => .k .bad) (fun _ _ _ _ => .k .bad) (fun _ _ _ _ _ _ _ _ => .k .bad) (fun _ _ _ _ _ _ => .k .bad) (fun _ _ _ _ _ => .k .bad) (fun _ _ _ _ _ => .k .bad) (fun _ _ _ _ _ _ _ => .k .bad) () (fun _ _ _ _ => ())
noncomputable def mf1 : AV × AV → AV → Bool → List Nat → Bool → AV → AV := Prod.rec (motive := fun _ => AV → Bool → List Nat → Bool → AV → AV) (fun k' v w g ks ok z => mfT (keqV w g ks k') v z ok)
noncomputable def mfindV : List (AV × AV) → AV → Bool → List Nat → Bool → AV → AV := List.rec (motive := fun _ => AV → Bool → List Nat → Bool → AV → AV) (fun _ _ _ ok z => kokV ok z false) (fun x _ ih w g ks ok z => mf1 x w g ks ok (ih w g ks ok z))
noncomputable def obFind : Ob → AV → Bool → List Nat → Bool → AV → AV := Ob.rec (motive := fun _ => AV → Bool → List Nat → Bool → AV → AV) (fun _ _ _ _ _ => .k .bad) (fun _ _ _ _ _ _ _ => .k .bad) mfindV (fun _ _ _ _ _ _ _ _ _ => .k .bad)
noncomputable def lkC : Kc → Bool → AV → AV := Kc.rec (motive := fun _ => Bool → AV → AV) (fun _ _ => .k .bad) (fun _ _ => .k .bad) (fun _ _ => .k .bad) (fun _ _ => .k .bad) (fun _ _ => .k .bad) (fun ok z => kokV ok z false) (fun _ _ => .k .bad) (fun _ _ => .k .bad)
/-- a map asked for a key -/
noncomputable def lkV0 : AV → Bool → List Nat → Bool → AV → Heap → AV → AV := AV.rec (motive_1 := fun _ => Bool → List Nat → Bool → AV → Heap → AV → AV) (motive_2 := fun _ => Unit) (fun x0 _ _ ok z _ _ => lkC x0 ok z) (fun _ _ _ _ _ _ _ => .k .bad) (fun _ _ _ _ _ _ _ _ => .k .bad) (fun _ _ _ _ _ _ _ => .k .bad) (fun _ _ _ _ _ _ _ _ => .k .bad) (fun _ _ _ _ _ _ _ _ _ _ => .k .bad) (fun x0 g ks ok z h w => obFind (hat h x0) w g ks ok z) (fun _ _ _ _ _ _ _ _ _ _ _ => .k .bad) (fun _ _ _ _ _ _ _ _ _ => .k .bad) (fun _ _ _ _ _ _ _ _ => .k .bad) (fun _ _ _ _ _ _ _ _ => .k .bad) (fun _ _ _ _ _ _ _ _ _ _ => .k .bad) () (fun _ _ _ _ => ())
noncomputable def isBt : AV → Bool := AV.rec (motive_1 := fun _ => Bool) (motive_2 := fun _ => Unit) (fun _ => false) (fun x0 => x0) (fun _ _ => false) (fun _ => false) (fun _ _ => false) (fun _ _ _ _ => false) (fun _ => false) (fun _ _ _ _ _ => false) (fun _ _ _ => false) (fun _ _ => false) (fun _ _ => false) (fun _ _ _ _ => false) () (fun _ _ _ _ => ())
/-- a key of its form -/
noncomputable def keyOk (w : AV) (g : Bool) (ks : List Nat) : Bool := isBt (keqV w g ks w)
noncomputable def lkV (v : AV) (g : Bool) (ks : List Nat) (ok : Bool) (z : AV) (h : Heap) (w : AV) : AV := ifv (keyOk w g ks) (lkV0 v g ks ok z h w) (.k .bad)
noncomputable def taC : Kc → Bool → AV → AV := Kc.rec (motive := fun _ => Bool → AV → AV) (fun _ _ => .k .bad) (fun _ _ => .k .bad) (fun _ _ => .k .bad) (fun _ _ => .k .bad) (fun _ _ => .k .bad) (fun _ _ => .k .bad) (fun _ _ => .k .bad) (fun ok z => ifv ok (kokV ok z false) (.k .bad))
noncomputable def taV : AV → Nat → AV → Bool → AV := AV.rec (motive_1 := fun _ => Nat → AV → Bool → AV) (motive_2 := fun _ => Unit) (fun x0 _ z ok => taC x0 ok z) (fun _ _ _ _ => .k .bad) (fun _ _ _ _ _ => .k .bad) (fun _ _ _ _ => .k .bad) (fun _ _ _ _ _ => .k .bad) (fun _ _ _ _ _ _ _ => .k .bad) (fun _ _ _ _ => .k .bad) (fun _ _ _ _ _ _ _ _ => .k .bad) (fun x0 x1 _ t z ok => ifv (Nat.beq x0 t) (kokV ok x1 true) (ifv ok (kokV ok z false) (.k .bad))) (fun _ _ _ _ _ => .k .bad) (fun _ _ _ _ _ => .k .bad) (fun _ _ _ _ _ _ _ => .k .bad) () (fun _ _ _ _ => ())
noncomputable def mxW : AV → IntKind → Int → AV := AV.rec (motive_1 := fun _ => IntKind → Int → AV) (motive_2 := fun _ => Unit) (fun _ _ _ => .k .bad) (fun _ _ _ => .k .bad) (fun x0 x1 k m => ifv (kq k x0) (ifv (ilt m x1) (.i k x1) (.i k m)) (.k .bad)) (fun _ _ _ => .k .bad) (fun _ _ _ _ => .k .bad) (fun _ _ _ _ _ _ => .k .bad) (fun _ _ _ => .k .bad) (fun _ _ _ _ _ _ _ => .k .bad) (fun _ _ _ _ _ => .k .bad) (fun _ _ _ _ => .k .bad) (fun _ _ _ _ => .k .bad) (fun _ _ _ _ _ _ => .k .bad) () (fun _ _ _ _ => ())
noncomputable def mxV : AV → AV → AV := AV.rec (motive_1 := fun _ => AV → AV) (motive_2 := fun _ => Unit) (fun _ _ => .k .bad) (fun _ _ => .k .bad) (fun x0 x1 w => mxW w x0 x1) (fun _ _ => .k .bad) (fun _ _ _ => .k .bad) (fun _ _ _ _ _ => .k .bad) (fun _ _ => .k .bad) (fun _ _ _ _ _ _ => .k .bad) (fun _ _ _ _ => .k .bad) (fun _ _ _ => .k .bad) (fun _ _ _ => .k .bad) (fun _ _ _ _ _ => .k .bad) () (fun _ _ _ _ => ())
noncomputable def findN : List Nat → Nat → Nat → AV := List.rec (motive := fun _ => Nat → Nat → AV) (fun _ _ => .i .i64 (Int.negSucc 0)) (fun x _ ih c n => ifv (Nat.beq x c) (.i .i64 (Int.ofNat n)) (ih c (Nat.add n 1)))
noncomputable def ixbN : Int → List Nat → AV := Int.rec (motive := fun _ => List Nat → AV) (fun c l => ifv (Nat.ble c 255) (findN l c 0) (.k .bad)) (fun _ _ => .k .bad)
noncomputable def ixbW : AV → List Nat → AV := AV.rec (motive_1 := fun _ => List Nat → AV) (motive_2 := fun _ => Unit) (fun _ _ => .k .bad) (fun _ _ => .k .bad) (fun x0 x1 l => ifv (kq .u8 x0) (ixbN x1 l) (.k .bad)) (fun _ _ => .k .bad) (fun _ _ _ => .k .bad) (fun _ _ _ _ _ => .k .bad) (fun _ _ => .k .bad) (fun _ _ _ _ _ _ => .k .bad) (fun _ _ _ _ => .k .bad) (fun _ _ _ => .k .bad) (fun _ _ _ => .k .bad) (fun _ _ _ _ _ => .k .bad) () (fun _ _ _ _ => ())
noncomputable def ixbV : AV → AV → AV := AV.rec (motive_1 := fun _ => AV → AV) (motive_2 := fun _ => Unit) (fun _ _ => .k .bad) (fun _ _ => .k .bad) (fun _ _ _ => .k .bad) (fun x0 w => ixbW w x0) (fun _ _ _ => .k .bad) (fun _ _ _ _ _ => .k .bad) (fun _ _ => .k .bad) (fun _ _ _ _ _ _ => .k .bad) (fun _ _ _ _ => .k .bad) (fun _ _ _ => .k .bad) (fun _ _ _ => .k .bad) (fun _ _ _ _ _ => .k .bad) () (fun _ _ _ _ => ())
noncomputable def asP : AV → (BK → Nat → Bool) → Bool := AV.rec (motive_1 := fun _ => (BK → Nat → Bool) → Bool) (motive_2 := fun _ => Unit) (fun _ _ => false) (fun _ _ => false) (fun _ _ _ => false) (fun _ _ => false) (fun x0 x1 K => K x0 x1) (fun _ _ _ _ _ => false) (fun _ _ => false) (fun _ _ _ _ _ _ => false) (fun _ _ _ _ => false) (fun _ _ _ => false) (fun _ _ _ => false) (fun _ _ _ _ _ => false) () (fun _ _ _ _ => ())
noncomputable def asM : AV → (BK → Bool) → Bool := AV.rec (motive_1 := fun _ => (BK → Bool) → Bool) (motive_2 := fun _ => Unit) (fun _ _ => false) (fun _ _ => false) (fun _ _ _ => false) (fun _ _ => false) (fun _ _ _ => false) (fun _ _ _ _ _ => false) (fun x0 K => K x0) (fun _ _ _ _ _ _ => false) (fun _ _ _ _ => false) (fun _ _ _ => false) (fun _ _ _ => false) (fun _ _ _ _ _ => false) () (fun _ _ _ _ => ())
noncomputable def asS : AV → (List Nat → Bool) → Bool := AV.rec (motive_1 := fun _ => (List Nat → Bool) → Bool) (motive_2 := fun _ => Unit) (fun _ _ => false) (fun _ _ => false) (fun _ _ _ => false) (fun x0 K => K x0) (fun _ _ _ => false) (fun _ _ _ _ _ => false) (fun _ _ => false) (fun _ _ _ _ _ _ => false) (fun _ _ _ _ => false) (fun _ _ _ => false) (fun _ _ _ => false) (fun _ _ _ _ _ => false) () (fun _ _ _ _ => ())
noncomputable def asAgg : AV → (List AV → Bool) → Bool := AV.rec (motive_1 := fun _ => (List AV → Bool) → Bool) (motive_2 := fun _ => Unit) (fun _ _ => false) (fun _ _ => false) (fun _ _ _ => false) (fun _ _ => false) (fun _ _ _ => false) (fun _ _ _ _ _ => false) (fun _ _ => false) (fun _ _ _ _ _ _ => false) (fun _ _ _ _ => false) (fun x0 _ K => K x0) (fun _ _ _ => false) (fun _ _ _ _ _ => false) () (fun _ _ _ _ => ())
noncomputable def asFn : AV → (FK → List AV → List AV → Bool) → Bool := AV.rec (motive_1 := fun _ => (FK → List AV → List AV → Bool) → Bool) (motive_2 := fun _ => Unit) (fun _ _ => false) (fun _ _ => false) (fun _ _ _ => false) (fun _ _ => false) (fun _ _ _ => false) (fun _ _ _ _ _ => false) (fun _ _ => false) (fun x0 x1 x2 _ _ K => K x0 x1 x2) (fun _ _ _ _ => false) (fun _ _ _ => false) (fun _ _ _ => false) (fun _ _ _ _ _ => false) () (fun _ _ _ _ => ())
noncomputable def asN : AV → (Nat → Bool) → Bool := AV.rec (motive_1 := fun _ => (Nat → Bool) → Bool) (motive_2 := fun _ => Unit) (fun _ _ => false) (fun _ _ => false) (fun _ x1 K => inatK x1 K) (fun _ _ => false) (fun _ _ _ => false) (fun _ _ _ _ _ => false) (fun _ _ => false) (fun _ _ _ _ _ _ => false) (fun _ _ _ _ => false) (fun _ _ _ => false) (fun _ _ _ => false) (fun _ _ _ _ _ => false) () (fun _ _ _ _ => ())
noncomputable def u8K (K : Nat → Bool) (n : Nat) : Bool := ifb (Nat.ble n 255) (K n) false
/-- a byte -/
noncomputable def asU8 : AV → (Nat → Bool) → Bool := AV.rec (motive_1 := fun _ => (Nat → Bool) → Bool) (motive_2 := fun _ => Unit) (fun _ _ => false) (fun _ _ => false) (fun x0 x1 K => ifb (kq .u8 x0) (inatK x1 (u8K K)) false) (fun _ _ => false) (fun _ _ _ => false) (fun _ _ _ _ _ => false) (fun _ _ => false) (fun _ _ _ _ _ _ => false) (fun _ _ _ _ => false) (fun _ _ _ => false) (fun _ _ _ => false) (fun _ _ _ _ _ => false) () (fun _ _ _ _ => ())
noncomputable def slC : Kc → Bool → Bool := Kc.rec (motive := fun _ => Bool → Bool) (fun _ => false) (fun _ => false) (fun _ => false) (fun _ => false) (fun N => N) (fun _ => false) (fun _ => false) (fun _ => false)
noncomputable def asSl : AV → Bool → (BK → Nat → Nat → Cp → Bool) → Bool := AV.rec (motive_1 := fun _ => Bool → (BK → Nat → Nat → Cp → Bool) → Bool) (motive_2 := fun _ => Unit) (fun x0 N _ => slC x0 N) (fun _ _ _ => false) (fun _ _ _ _ => false) (fun _ _ _ => false) (fun _ _ _ _ => false) (fun x0 x1 x2 x3 _ K => K x0 x1 x2 x3) (fun _ _ _ => false) (fun _ _ _ _ _ _ _ => false) (fun _ _ _ _ _ => false) (fun _ _ _ _ => false) (fun _ _ _ _ => false) (fun _ _ _ _ _ _ => false) () (fun _ _ _ _ => ())
noncomputable def ceC : Kc → (List AV → Bool) → Bool := Kc.rec (motive := fun _ => (List AV → Bool) → Bool) (fun _ => false) (fun _ => false) (fun _ => false) (fun K => K [.k .pn]) (fun K => K [.k .sln]) (fun K => K [.k .mn]) (fun K => K [.k .fnn]) (fun K => K [.k .ifn])
/-- the cells of a value -/
noncomputable def cellsOf : AV → (List AV → Bool) → Bool := AV.rec (motive_1 := fun _ => (List AV → Bool) → Bool) (motive_2 := fun _ => Unit) (fun x0 K => ceC x0 K) (fun x0 K => K [.b x0]) (fun x0 x1 K => K [.i x0 x1]) (fun x0 K => K [.s x0]) (fun x0 x1 K => K [.p x0 x1]) (fun x0 x1 x2 x3 K => K [.sl x0 x1 x2 x3]) (fun x0 K => K [.m x0]) (fun x0 x1 x2 _ _ K => K [.fn x0 x1 x2]) (fun x0 x1 _ K => K [.iface x0 x1]) (fun x0 _ K => K x0) (fun _ _ _ => false) (fun _ _ _ _ _ => false) () (fun _ _ _ _ => ())
noncomputable def isIf : AV → Bool → Bool := AV.rec (motive_1 := fun _ => Bool → Bool) (motive_2 := fun _ => Unit) (fun _ _ => false) (fun _ _ => false) (fun _ _ _ => false) (fun _ _ => false) (fun _ _ _ => false) (fun _ _ _ _ _ => false) (fun _ _ => false) (fun _ _ _ _ _ _ => false) (fun _ _ _ K => K) (fun _ _ _ => false) (fun _ _ _ => false) (fun _ _ _ _ _ => false) () (fun _ _ _ _ => ())
noncomputable def sameSl (k : BK) (o n : Nat) (c : Cp) (l : BK) (p m : Nat) (d : Cp) : Bool := ifb (decide (k = l)) (ifb (Nat.beq o p) (ifb (Nat.beq n m) (decide (c = d)) false) false) false
noncomputable def smK : AV → Kc → Bool := AV.rec (motive_1 := fun _ => Kc → Bool) (motive_2 := fun _ => Unit) (fun x0 c => Nat.beq (kNo c) (kNo x0)) (fun _ _ => false) (fun _ _ _ => false) (fun _ _ => false) (fun _ _ _ => false) (fun _ _ _ _ _ => false) (fun _ _ => false) (fun _ _ _ _ _ _ => false) (fun _ _ _ _ => false) (fun _ _ _ => false) (fun _ _ _ => false) (fun _ _ _ _ _ => false) () (fun _ _ _ _ => ())
noncomputable def smB : AV → Bool → Bool := AV.rec (motive_1 := fun _ => Bool → Bool) (motive_2 := fun _ => Unit) (fun _ _ => false) (fun x0 y => eqb y x0) (fun _ _ _ => false) (fun _ _ => false) (fun _ _ _ => false) (fun _ _ _ _ _ => false) (fun _ _ => false) (fun _ _ _ _ _ _ => false) (fun _ _ _ _ => false) (fun _ _ _ => false) (fun _ _ _ => false) (fun _ _ _ _ _ => false) () (fun _ _ _ _ => ())
noncomputable def smI : AV → IntKind → Int → Bool := AV.rec (motive_1 := fun _ => IntKind → Int → Bool) (motive_2 := fun _ => Unit) (fun _ _ _ => false) (fun _ _ _ => false) (fun x0 x1 k n => ifb (kq k x0) (ieq n x1) false) (fun _ _ _ => false) (fun _ _ _ _ => false) (fun _ _ _ _ _ _ => false) (fun _ _ _ => false) (fun _ _ _ _ _ _ _ => false) (fun _ _ _ _ _ => false) (fun _ _ _ _ => false) (fun _ _ _ _ => false) (fun _ _ _ _ _ _ => false) () (fun _ _ _ _ => ())
noncomputable def smS : AV → List Nat → Bool := AV.rec (motive_1 := fun _ => List Nat → Bool) (motive_2 := fun _ => Unit) (fun _ _ => false) (fun _ _ => false) (fun _ _ _ => false) (fun x0 l => leq l x0) (fun _ _ _ => false) (fun _ _ _ _ _ => false) (fun _ _ => false) (fun _ _ _ _ _ _ => false) (fun _ _ _ _ => false) (fun _ _ _ => false) (fun _ _ _ => false) (fun _ _ _ _ _ => false) () (fun _ _ _ _ => ())
noncomputable def smP : AV → BK → Nat → Bool := AV.rec (motive_1 := fun _ => BK → Nat → Bool) (motive_2 := fun _ => Unit) (fun _ _ _ => false) (fun _ _ _ => false) (fun _ _ _ _ => false) (fun _ _ _ => false) (fun x0 x1 k o => ifb (decide (k = x0)) (Nat.beq o x1) false) (fun _ _ _ _ _ _ => false) (fun _ _ _ => false) (fun _ _ _ _ _ _ _ => false) (fun _ _ _ _ _ => false) (fun _ _ _ _ => false) (fun _ _ _ _ => false) (fun _ _ _ _ _ _ => false) () (fun _ _ _ _ => ())
noncomputable def smSl : AV → BK → Nat → Nat → Cp → Bool := AV.rec (motive_1 := fun _ => BK → Nat → Nat → Cp → Bool) (motive_2 := fun _ => Unit) (fun _ _ _ _ _ => false) (fun _ _ _ _ _ => false) (fun _ _ _ _ _ _ => false) (fun _ _ _ _ _ => false) (fun _ _ _ _ _ _ => false) (fun x0 x1 x2 x3 k o n c => sameSl k o n c x0 x1 x2 x3) (fun _ _ _ _ _ => false) (fun _ _ _ _ _ _ _ _ _ => false) (fun _ _ _ _ _ _ _ => false) (fun _ _ _ _ _ _ => false) (fun _ _ _ _ _ _ => false) (fun _ _ _ _ _ _ _ _ => false) () (fun _ _ _ _ => ())
noncomputable def smM : AV → BK → Bool := AV.rec (motive_1 := fun _ => BK → Bool) (motive_2 := fun _ => Unit) (fun _ _ => false) (fun _ _ => false) (fun _ _ _ => false) (fun _ _ => false) (fun _ _ _ => false) (fun _ _ _ _ _ => false) (fun x0 k => decide (k = x0)) (fun _ _ _ _ _ _ => false) (fun _ _ _ _ => false) (fun _ _ _ => false) (fun _ _ _ => false) (fun _ _ _ _ _ => false) () (fun _ _ _ _ => ())
/-- the same: values without parts -/
noncomputable def same0 : AV → AV → Bool := AV.rec (motive_1 := fun _ => AV → Bool) (motive_2 := fun _ => Unit) (fun x0 w => smK w x0) (fun x0 w => smB w x0) (fun x0 x1 w => smI w x0 x1) (fun x0 w => smS w x0) (fun x0 x1 w => smP w x0 x1) (fun x0 x1 x2 x3 w => smSl w x0 x1 x2 x3) (fun x0 w => smM w x0) (fun _ _ _ _ _ _ => false) (fun _ _ _ _ => false) (fun _ _ _ => false) (fun _ _ _ => false) (fun _ _ _ _ _ => false) () (fun _ _ _ _ => ())
noncomputable def samesK (ih : List AV → Bool) (x y : AV) (r : List AV) : Bool := ifb (same0 x y) (ih r) false
noncomputable def samesS (x : AV) (_ : List AV) (ih : List AV → Bool) (b : List AV) : Bool := lcase b false (samesK ih x)
noncomputable def sames : List AV → List AV → Bool := List.rec (motive := fun _ => List AV → Bool) nul samesS
noncomputable def smA : AV → List AV → Bool := AV.rec (motive_1 := fun _ => List AV → Bool) (motive_2 := fun _ => Unit) (fun _ _ => false) (fun _ _ => false) (fun _ _ _ => false) (fun _ _ => false) (fun _ _ _ => false) (fun _ _ _ _ _ => false) (fun _ _ => false) (fun _ _ _ _ _ _ => false) (fun _ _ _ _ => false) (fun x0 _ l => sames l x0) (fun _ _ _ => false) (fun _ _ _ _ _ => false) () (fun _ _ _ _ => ())
noncomputable def smT : AV → List AV → Bool := AV.rec (motive_1 := fun _ => List AV → Bool) (motive_2 := fun _ => Unit) (fun _ _ => false) (fun _ _ => false) (fun _ _ _ => false) (fun _ _ => false) (fun _ _ _ => false) (fun _ _ _ _ _ => false) (fun _ _ => false) (fun _ _ _ _ _ _ => false) (fun _ _ _ _ => false) (fun _ _ _ => false) (fun x0 _ l => sames l x0) (fun _ _ _ _ _ => false) () (fun _ _ _ _ => ())
noncomputable def smF : AV → FK → List AV → List AV → Bool := AV.rec (motive_1 := fun _ => FK → List AV → List AV → Bool) (motive_2 := fun _ => Unit) (fun _ _ _ _ => false) (fun _ _ _ _ => false) (fun _ _ _ _ _ => false) (fun _ _ _ _ => false) (fun _ _ _ _ _ => false) (fun _ _ _ _ _ _ _ => false) (fun _ _ _ _ => false) (fun x0 x1 x2 _ _ f l r => ifb (decide (f = x0)) (ifb (sames l x1) (sames r x2) false) false) (fun _ _ _ _ _ _ => false) (fun _ _ _ _ _ => false) (fun _ _ _ _ _ => false) (fun _ _ _ _ _ _ _ => false) () (fun _ _ _ _ => ())
noncomputable def same : AV → AV → Bool := AV.rec (motive_1 := fun _ => AV → Bool) (motive_2 := fun _ => Unit) (fun x0 w => smK w x0) (fun x0 w => smB w x0) (fun x0 x1 w => smI w x0 x1) (fun x0 w => smS w x0) (fun x0 x1 w => smP w x0 x1) (fun x0 x1 x2 x3 w => smSl w x0 x1 x2 x3) (fun x0 w => smM w x0) (fun x0 x1 x2 _ _ w => smF w x0 x1 x2) (fun _ _ _ _ => false) (fun x0 _ w => smA w x0) (fun x0 _ w => smT w x0) (fun _ _ _ _ _ => false) () (fun _ _ _ _ => ())
noncomputable def keyOf : AV → (BK → Bool) → Bool := AV.rec (motive_1 := fun _ => (BK → Bool) → Bool) (motive_2 := fun _ => Unit) (fun _ _ => false) (fun _ _ => false) (fun _ _ _ => false) (fun _ _ => false) (fun x0 _ K => K x0) (fun x0 _ _ _ K => K x0) (fun x0 K => K x0) (fun _ _ _ _ _ _ => false) (fun _ _ _ _ => false) (fun _ _ _ => false) (fun _ _ _ => false) (fun _ _ _ _ _ => false) () (fun _ _ _ _ => ())
noncomputable def gC : Kc → Bool → Bool := Kc.rec (motive := fun _ => Bool → Bool) (fun _ => false) (fun N => N) (fun _ => false) (fun _ => false) (fun _ => false) (fun _ => false) (fun _ => false) (fun _ => false)
/-- is it the wanted bool? -/
noncomputable def grd : AV → Bool → Bool → Bool → Bool := AV.rec (motive_1 := fun _ => Bool → Bool → Bool → Bool) (motive_2 := fun _ => Unit) (fun x0 _ _ N => gC x0 N) (fun x0 w Y N => ifb (eqb x0 w) Y N) (fun _ _ _ _ _ => false) (fun _ _ _ _ => false) (fun _ _ _ _ _ => false) (fun _ _ _ _ _ _ _ => false) (fun _ _ _ _ => false) (fun _ _ _ _ _ _ _ _ => false) (fun _ _ _ _ _ _ => false) (fun _ _ _ _ _ => false) (fun _ _ _ _ _ => false) (fun _ _ _ _ _ _ _ => false) () (fun _ _ _ _ => ())
noncomputable def okN : AV → Bool := AV.rec (motive_1 := fun _ => Bool) (motive_2 := fun _ => Unit) (fun _ => false) (fun _ => false) (fun _ x1 => ieqNN x1) (fun _ => false) (fun _ _ => false) (fun _ _ _ _ => false) (fun _ => false) (fun _ _ _ _ _ => false) (fun _ _ _ => false) (fun _ _ => false) (fun _ _ => false) (fun _ _ _ _ => false) () (fun _ _ _ _ => ())
noncomputable def okC : Kc → Bool := Kc.rec (motive := fun _ => Bool) (true) (false) (false) (false) (false) (false) (false) (false)
/-- a number that is not below 0, or none -/
noncomputable def okNo : AV → Bool := AV.rec (motive_1 := fun _ => Bool) (motive_2 := fun _ => Unit) (fun x0 => okC x0) (fun _ => false) (fun _ x1 => ieqNN x1) (fun _ => false) (fun _ _ => false) (fun _ _ _ _ => false) (fun _ => false) (fun _ _ _ _ _ => false) (fun _ _ _ => false) (fun _ _ => false) (fun _ _ => false) (fun _ _ _ _ => false) () (fun _ _ _ _ => ())
noncomputable def natOr : AV → Nat → Nat := AV.rec (motive_1 := fun _ => Nat → Nat) (motive_2 := fun _ => Unit) (fun _ d => d) (fun _ _ => 0) (fun _ x1 _ => inatD x1) (fun _ _ => 0) (fun _ _ _ => 0) (fun _ _ _ _ _ => 0) (fun _ _ => 0) (fun _ _ _ _ _ _ => 0) (fun _ _ _ _ => 0) (fun _ _ _ => 0) (fun _ _ _ => 0) (fun _ _ _ _ _ => 0) () (fun _ _ _ _ => ())
noncomputable def isX : Kc → Bool := Kc.rec (motive := fun _ => Bool) (true) (false) (false) (false) (false) (false) (false) (false)
noncomputable def isNone : AV → Bool := AV.rec (motive_1 := fun _ => Bool) (motive_2 := fun _ => Unit) (fun x0 => isX x0) (fun _ => false) (fun _ _ => false) (fun _ => false) (fun _ _ => false) (fun _ _ _ _ => false) (fun _ => false) (fun _ _ _ _ _ => false) (fun _ _ _ => false) (fun _ _ => false) (fun _ _ => false) (fun _ _ _ _ => false) () (fun _ _ _ _ => ())
/-- a slice with room up to m -/
noncomputable def mkK (sz : Nat) (k : BK) (o lo hi m : Nat) : AV := .sl k (ifn (Nat.beq m lo) o (Nat.add o (Nat.mul lo sz))) (Nat.sub hi lo) (.kn (Nat.sub m lo))
/-- a slice whose room is not known -/
noncomputable def mkU (sz : Nat) (k : BK) (o lo hi : Nat) : AV := .sl k (Nat.add o (Nat.mul lo sz)) (Nat.sub hi lo) (.un sz)
noncomputable def svU (sz : Nat) (k : BK) (o len : Nat) (h : Heap) (lo hi : Nat) : AV := ifv (ifb (Nat.ble hi len) true (Nat.ble (Nat.add o (Nat.mul hi sz)) (lenD (obL (hat h k))))) (mkU sz k o lo hi) (.k .bad)
noncomputable def svUm (sz : Nat) (k : BK) (o len lo hi m : Nat) : AV := ifv (ifb (Nat.ble hi m) (Nat.ble m len) false) (mkK sz k o lo hi m) (.k .bad)
noncomputable def svK (c sz : Nat) (k : BK) (o lo hi : Nat) : AV := ifv (Nat.ble hi c) (mkK sz k o lo hi c) (.k .bad)
noncomputable def svKm (c sz : Nat) (k : BK) (o lo hi m : Nat) : AV := ifv (ifb (Nat.ble hi m) (Nat.ble m c) false) (mkK sz k o lo hi m) (.k .bad)
noncomputable def svc : Cp → Nat → BK → Nat → Nat → Heap → Nat → Nat → AV → AV := Cp.rec (motive := fun _ => Nat → BK → Nat → Nat → Heap → Nat → Nat → AV → AV)
  (fun c sz k o _ _ lo hi mx => ifv (isNone mx) (svK c sz k o lo hi) (svKm c sz k o lo hi (natOr mx 0)))
  (fun z sz k o len h lo hi mx => ifv (Nat.beq z sz) (ifv (isNone mx) (svU sz k o len h lo hi) (svUm sz k o len lo hi (natOr mx 0))) (.k .bad))
noncomputable def svS (sz : Nat) (k : BK) (o len : Nat) (cap : Cp) (h : Heap) (lo hi : Nat) (mx : AV) : AV := ifv (Nat.ble lo hi) (svc cap sz k o len h lo hi mx) (.k .bad)
noncomputable def svN (lo hi mx : Nat) : AV := ifv (ifb (Nat.beq lo 0) (ifb (Nat.beq hi 0) (Nat.beq mx 0) false) false) (.k .sln) (.k .bad)
noncomputable def svC : Kc → AV → AV → AV → AV := Kc.rec (motive := fun _ => AV → AV → AV → AV) (fun _ _ _ => .k .bad) (fun _ _ _ => .k .bad) (fun _ _ _ => .k .bad) (fun _ _ _ => .k .bad) (fun lo hi mx => svN (natOr lo 0) (natOr hi 0) (natOr mx 0)) (fun _ _ _ => .k .bad) (fun _ _ _ => .k .bad) (fun _ _ _ => .k .bad)
noncomputable def svV1 : AV → Nat → AV → AV → AV → Heap → AV := AV.rec (motive_1 := fun _ => Nat → AV → AV → AV → Heap → AV) (motive_2 := fun _ => Unit) (fun x0 _ lo hi mx _ => svC x0 lo hi mx) (fun _ _ _ _ _ _ => .k .bad) (fun _ _ _ _ _ _ _ => .k .bad) (fun _ _ _ _ _ _ => .k .bad) (fun _ _ _ _ _ _ _ => .k .bad) (fun x0 x1 x2 x3 sz lo hi mx h => svS sz x0 x1 x2 x3 h (natOr lo 0) (natOr hi x2) mx) (fun _ _ _ _ _ _ => .k .bad) (fun _ _ _ _ _ _ _ _ _ _ => .k .bad) (fun _ _ _ _ _ _ _ _ => .k .bad) (fun _ _ _ _ _ _ _ => .k .bad) (fun _ _ _ _ _ _ _ => .k .bad) (fun _ _ _ _ _ _ _ _ _ => .k .bad) () (fun _ _ _ _ => ())
noncomputable def svV (sz : Nat) (v lo hi mx : AV) (h : Heap) : AV := ifv (ifb (okN lo) (ifb (okNo hi) (okNo mx) false) false) (svV1 v sz lo hi mx h) (.k .bad)

/-! ### the instructions -/
inductive X where
  | l (i : Nat) | v (k : VK) | c (a : AV)
inductive Pc where
  | c (l : List AV) | x (n : Nat) (a : X)
/-- what reads -/
inductive RI where
  | mv (a : X) | pick (c a b : X)
  | ib (op : BinOp) (a b : X) | sb (op : BinOp) (a b : X) | sc (a b : X) | bb (ne : Bool) (a b : X) | nl (kd : Nat) (ne : Bool) (a : X) | ae (ne : Bool) (ks : List Nat) (a b : X)
  | not (a : X) | neg (a : X) | cv (k : IntKind) (a : X) | i2s (a : X) | nc (a : X)
  | fa (o : Nat) (a : X) | ia (sz : Nat) (a i : X) | iaa (sz n : Nat) (a i : X) | ix (a i : X)
  | ss (a lo hi : X) | sv (sz : Nat) (a lo hi mx : X)
  | ext (j : Nat) (a : X) | ld (a : X) | lda (n : Nat) (a : X) | bld (l : List Pc)
  | ls (a : X) | ll (a : X) | lm (a : X) | lk (g : Bool) (ks : List Nat) (ok : Bool) (z : AV) (m k : X)
  | mi (t : Nat) (a : X) | mf (f : FK) (first cap : List X) | ta (t : Nat) (z : AV) (ok : Bool) (a : X)
  | mx (a b : X) | b2s (a : X) | ixb (s c : X) | en (a : X)
  | up (a : X) | pu (ok : List (Nat × Nat)) (a : X) | pe (a b : X) | sd (a : X) | ixa (len sz : Nat) (ag : Bool) (a i : X)
/-- what makes a block -/
inductive AI where
  | al (g : Tg) (l : List AV) | bx (t : Nat) (a : X) | bs (n : Nat) (l : List Pc) | ms (z : List AV) (l c : X) | mm | s2b (a : X)
/-- what turns memory, or calls -/
inductive EI where
  | st (n : Nat) (a v : X) | mu (g : Bool) (ks : List Nat) (m k v : X) | call (f : FK) (args : List X) | cv (f : X) (args : List X) | ap (e sz : Nat) (s x : X) | cp (sz : Nat) (d s : X)
  | clr (z : List AV) (a : X) | df (f : X) (args : List X) | pan (a : X) | rg (m : X) | nx (a : X) | us (e : Nat) (a n : X)
inductive It where
  | r (i : RI) | a (i : AI)
  | e (i : EI) (ck : List (RI × X)) (ca : List (AI × X))
  | g (w : Bool) (c : X) (i : It)
inductive Co where
  | skip | reg (its : List It) (sets : List (VK × X)) | regc (its : List It) (sets : List (VK × X)) (j : X) (a b : Co)
  | seq (a b : Co) | cond (c : X) (a b : Co) | block (id : Nat) (a : Co) | loop (a : Co) | exit (id : Nat) | ret | mem (vs : List VK) (t : List (List AV × AV)) (k : VK)
  | smem (vs : List VK) (s : List (BK × Ob)) (t : List (List AV × AV)) (k : VK)
  | spl (k : VK) (m : Nat) (b : Co)
inductive RV where
  | t (k : VK) | c (k : VK) (n : Option Nat)
structure AF where
  params : List VK
  body : Co
  results : List RV

abbrev RT := List AV → Env → Heap → (AV → Bool) → Bool
abbrev KT := AV → Heap → BK → Bool
abbrev CT := FK → List AV → Heap → BK → KT → KT → Bool

/-- an operand -/
noncomputable def opd : X → List AV → Env → AV := X.rec (motive := fun _ => List AV → Env → AV) (fun i st _ => nthD i st) (fun k _ e => vat e k) (fun a _ _ => a)
noncomputable def frcL0 (K : List AV → Bool) : Bool := K []
noncomputable def frcL2 (K : List AV → Bool) (ih : (List AV → Bool) → Bool) (v : AV) : Bool := ih (kcons K v)
noncomputable def frcL : List AV → (List AV → Bool) → Bool := List.rec (motive := fun _ => (List AV → Bool) → Bool) frcL0 (fun x _ ih K => frcV x (frcL2 K ih))
abbrev XsT := List AV → Env → (List AV → Bool) → Bool
noncomputable def xs0 (_ : List AV) (_ : Env) (K : List AV → Bool) : Bool := K []
noncomputable def xs1 (ih : XsT) (st : List AV) (e : Env) (K : List AV → Bool) (v : AV) : Bool := ih st e (kcons K v)
/-- operands, brought to their form -/
noncomputable def evXs : List X → XsT := List.rec (motive := fun _ => XsT) xs0 (fun x _ ih st e K => frcV (opd x st e) (xs1 ih st e K))
noncomputable def kapp (r : List AV) (K : List AV → Bool) (l : List AV) : Bool := app l r K
noncomputable def kappn (n : Nat) (r : List AV) (K : List AV → Bool) (l : List AV) : Bool := ifb (Nat.beq (lenD l) n) (app l r K) false
noncomputable def evPc : Pc → List AV → Env → (List AV → Bool) → List AV → Bool := Pc.rec (motive := fun _ => List AV → Env → (List AV → Bool) → List AV → Bool)
  (fun l _ _ K r => app l r K) (fun n x st e K r => cellsOf (opd x st e) (kappn n r K))
/-- pieces put together -/
noncomputable def evP : List Pc → XsT := List.rec (motive := fun _ => XsT) xs0 (fun x _ ih st e K => ih st e (evPc x st e K))

/-! ### reading -/
noncomputable def kb (K : AV → Bool) (b : Bool) : Bool := fb1 b K
noncomputable def ks (K : AV → Bool) (l : List Nat) : Bool := K (.s l)
noncomputable def kagg (K : AV → Bool) (l : List AV) : Bool := K (.agg l)
noncomputable def rMv (a : X) : RT := fun st e _ K => frcV (opd a st e) K
noncomputable def rPick (c a b : X) : RT := fun st e _ K => frcV (pickV (opd c st e) (opd a st e) (opd b st e)) K
noncomputable def rIb (op : BinOp) (a b : X) : RT := fun st e _ K => frcV (ibV (opd a st e) op (opd b st e)) K
noncomputable def rSb (op : BinOp) (a b : X) : RT := fun st e _ K => frcV (sbV (opd a st e) op (opd b st e)) K
noncomputable def sc2 (K : AV → Bool) (l : List Nat) : Bool := ifb (Nat.ble (lenD l) 1000000) (K (.s l)) false
noncomputable def sc1 (K : AV → Bool) (l m : List Nat) : Bool := app l m (sc2 K)
noncomputable def sc0 (w : AV) (K : AV → Bool) (l : List Nat) : Bool := asS w (sc1 K l)
noncomputable def rSc (a b : X) : RT := fun st e _ K => asS (opd a st e) (sc0 (opd b st e) K)
noncomputable def rBb (ne : Bool) (a b : X) : RT := fun st e _ K => frcV (bbV (opd a st e) ne (opd b st e)) K
noncomputable def rNl (kd : Nat) (ne : Bool) (a : X) : RT := fun st e _ K => frcV (nilV (opd a st e) kd ne) K
noncomputable def rAe (ne : Bool) (ks : List Nat) (a b : X) : RT := fun st e _ K => frcV (notV (aggEqV (opd a st e) ks (opd b st e)) ne) K
noncomputable def rNot (a : X) : RT := fun st e _ K => frcV (notV1 (opd a st e)) K
noncomputable def rNeg (a : X) : RT := fun st e _ K => frcV (negV (opd a st e)) K
noncomputable def rCv (k : IntKind) (a : X) : RT := fun st e _ K => frcV (cvtV (opd a st e) k) K
noncomputable def rI2s (a : X) : RT := fun st e _ K => frcV (i2sV (opd a st e)) K
noncomputable def rNc (a : X) : RT := fun st e _ K => frcV (ncV (opd a st e)) K
noncomputable def rFa (o : Nat) (a : X) : RT := fun st e _ K => frcV (faV (opd a st e) o) K
noncomputable def rIa (sz : Nat) (a i : X) : RT := fun st e _ K => frcV (iaV (opd i st e) sz (opd a st e)) K
noncomputable def rIaa (sz len : Nat) (a i : X) : RT := fun st e _ K => frcV (iaaV (opd i st e) sz len (opd a st e)) K
noncomputable def rIx (a i : X) : RT := fun st e _ K => frcV (ixV (opd i st e) (opd a st e)) K
noncomputable def ss4 (n : Nat) (K : AV → Bool) (r : List Nat) : Bool := tak n r (ks K)
noncomputable def ss3 (l : List Nat) (n lo hi : Nat) (K : AV → Bool) : Bool := ifb (ifb (Nat.ble lo hi) (Nat.ble hi n) false) (drp lo l (ss4 (Nat.sub hi lo) K)) false
noncomputable def ss2 (lo hi : AV) (l : List Nat) (K : AV → Bool) (n : Nat) : Bool := ifb (ifb (okN lo) (okNo hi) false) (ss3 l n (natOr lo 0) (natOr hi n) K) false
noncomputable def ss1 (lo hi : AV) (K : AV → Bool) (l : List Nat) : Bool := len l (ss2 lo hi l K)
noncomputable def rSs (a lo hi : X) : RT := fun st e _ K => asS (opd a st e) (ss1 (opd lo st e) (opd hi st e) K)
noncomputable def rSv (sz : Nat) (a lo hi mx : X) : RT := fun st e h K => frcV (svV sz (opd a st e) (opd lo st e) (opd hi st e) (opd mx st e) h) K
noncomputable def rExt (j : Nat) (a : X) : RT := fun st e _ K => frcV (extV (opd a st e) j) K
noncomputable def rLd (a : X) : RT := fun st e h K => frcV (ldV (opd a st e) h) K
noncomputable def taks (n : Nat) (K : List AV → Bool) (l : List AV) : Bool := tak n l K
/-- so many cells of a block, from one on -/
noncomputable def cellsAt (h : Heap) (n : Nat) (K : List AV → Bool) (k : BK) (o : Nat) : Bool := drp o (obL (hat h k)) (taks n K)
noncomputable def rLda (n : Nat) (a : X) : RT := fun st e h K => asP (opd a st e) (cellsAt h n (kagg K))
noncomputable def rBld (l : List Pc) : RT := fun st e _ K => evP l st e (kagg K)
noncomputable def rLs (a : X) : RT := fun st e _ K => frcV (lsV (opd a st e)) K
noncomputable def rLl (a : X) : RT := fun st e _ K => frcV (llV (opd a st e)) K
/-- a part of an array -/
noncomputable def asAg : AV → (List AV → Bool) → Bool := AV.rec (motive_1 := fun _ => (List AV → Bool) → Bool) (motive_2 := fun _ => Unit) (fun _ _ => false) (fun _ _ => false) (fun _ _ _ => false) (fun _ _ => false) (fun _ _ _ => false) (fun _ _ _ _ _ => false) (fun _ _ => false) (fun _ _ _ _ _ _ => false) (fun _ _ _ _ => false) (fun x0 _ K => K x0) (fun _ _ _ => false) (fun _ _ _ _ _ => false) () (fun _ _ _ _ => ())
noncomputable def ixa4 (K : AV → Bool) (x : AV) (_ : List AV) : Bool := frcV x K
noncomputable def ixa3 (K : AV → Bool) (l : List AV) : Bool := lcase l false (ixa4 K)
noncomputable def ixa2 (sz n : Nat) (ag : Bool) (K : AV → Bool) (l : List AV) : Bool := ifb ag (drp (Nat.mul n sz) l (taks sz (kagg K))) (drp (Nat.mul n sz) l (ixa3 K))
noncomputable def ixa1 (len sz : Nat) (ag : Bool) (a : AV) (K : AV → Bool) (n : Nat) : Bool := ifb (Nat.blt n len) (asAg a (ixa2 sz n ag K)) false
noncomputable def rIxa (len sz : Nat) (ag : Bool) (a i : X) : RT := fun st e _ K => asN (opd i st e) (ixa1 len sz ag (opd a st e) K)
noncomputable def rUp (a : X) : RT := fun st e h K => frcV (upV (opd a st e) h) K
noncomputable def rPu (ok : List (Nat × Nat)) (a : X) : RT := fun st e h K => frcV (puV (opd a st e) h ok) K
noncomputable def rPe (a b : X) : RT := fun st e _ K => frcV (peV (opd a st e) (opd b st e)) K
noncomputable def rSd (a : X) : RT := fun st e _ K => frcV (sdV (opd a st e)) K
noncomputable def rEn (a : X) : RT := fun st e h K => frcV (enV (opd a st e) h) K
noncomputable def rLm (a : X) : RT := fun st e h K => frcV (lmV (opd a st e) h) K
noncomputable def rLk (g : Bool) (ks : List Nat) (ok : Bool) (z : AV) (m k : X) : RT := fun st e h K => frcV (lkV (opd m st e) g ks ok z h (opd k st e)) K
noncomputable def mi1 (t : Nat) (K : AV → Bool) (v : AV) : Bool := K (.iface t v)
noncomputable def rMi (t : Nat) (a : X) : RT := fun st e _ K => frcV (opd a st e) (mi1 t K)
noncomputable def mfn2 (f : FK) (l : List AV) (K : AV → Bool) (r : List AV) : Bool := K (.fn f l r)
noncomputable def mfn1 (f : FK) (cap : List X) (st : List AV) (e : Env) (K : AV → Bool) (l : List AV) : Bool := evXs cap st e (mfn2 f l K)
noncomputable def rMf (f : FK) (first cap : List X) : RT := fun st e _ K => evXs first st e (mfn1 f cap st e K)
noncomputable def rTa (t : Nat) (z : AV) (ok : Bool) (a : X) : RT := fun st e _ K => frcV (taV (opd a st e) t z ok) K
noncomputable def rMx (a b : X) : RT := fun st e _ K => frcV (mxV (opd a st e) (opd b st e)) K
noncomputable def by3 (ih : (List Nat → Bool) → Bool) (K : List Nat → Bool) (n : Nat) : Bool := ih (kcons K n)
/-- bytes as numbers -/
noncomputable def byts : List AV → (List Nat → Bool) → Bool := List.rec (motive := fun _ => (List Nat → Bool) → Bool) (fun K => K []) (fun x _ ih K => asU8 x (by3 ih K))
noncomputable def b2s2 (K : AV → Bool) (l : List AV) : Bool := byts l (ks K)
noncomputable def b2s1 (h : Heap) (K : AV → Bool) (k : BK) (o n : Nat) (_ : Cp) : Bool := cellsAt h n (b2s2 K) k o
noncomputable def rB2s (a : X) : RT := fun st e h K => asSl (opd a st e) (K (.s [])) (b2s1 h K)
noncomputable def rIxb (s c : X) : RT := fun st e _ K => frcV (ixbV (opd s st e) (opd c st e)) K
noncomputable def evR : RI → RT :=
  RI.rec (motive := fun _ => RT) rMv rPick rIb rSb rSc rBb rNl rAe rNot rNeg rCv rI2s rNc rFa rIa rIaa rIx rSs rSv rExt rLd rLda rBld rLs rLl rLm rLk rMi rMf rTa rMx rB2s rIxb rEn rUp rPu rPe rSd rIxa

/-! ### making -/
noncomputable def byteCells : List Nat → (List AV → Bool) → Bool := List.rec (motive := fun _ => (List AV → Bool) → Bool) frcL0 (fun x _ ih K => ih (kcons K (.i .u8 (Int.ofNat x))))
noncomputable def repK (z : List AV) (K : List AV → Bool) (r : List AV) : Bool := app z r K
noncomputable def rep : Nat → List AV → (List AV → Bool) → Bool := Nat.rec (motive := fun _ => List AV → (List AV → Bool) → Bool) (fun _ K => K []) (fun _ ih z K => ih z (repK z K))
/-- the block, and the value with its key -/
abbrev MT := List AV → Env → (Ob → (BK → AV) → Bool) → Bool
noncomputable def ptr0 (k : BK) : AV := .p k 0
noncomputable def slf (n c : Nat) (k : BK) : AV := .sl k 0 n (.kn c)
noncomputable def slu (n : Nat) (k : BK) : AV := .sl k 0 n (.un 1)
noncomputable def mBx3 (t : Nat) (K : Ob → (BK → AV) → Bool) (l : List AV) (n : Nat) : Bool := K (.cells (.x t n) l) ptr0
noncomputable def mBx2 (t : Nat) (K : Ob → (BK → AV) → Bool) (l : List AV) : Bool := frc (lenD l) (mBx3 t K l)
noncomputable def kSl (n c : Nat) (K : Ob → (BK → AV) → Bool) (l : List AV) : Bool := K (.cells .o l) (slf n c)
noncomputable def mMs2 (z : List AV) (m : Nat) (K : Ob → (BK → AV) → Bool) (n : Nat) : Bool := ifb (ifb (Nat.ble m n) (Nat.ble n 1000000) false) (rep n z (kSl m n K)) false
noncomputable def mMs1 (z : List AV) (c : AV) (K : Ob → (BK → AV) → Bool) (m : Nat) : Bool := asN c (mMs2 z m K)
noncomputable def kSu (n : Nat) (K : Ob → (BK → AV) → Bool) (l : List AV) : Bool := K (.cells .o l) (slu n)
noncomputable def s2b2 (l : List Nat) (K : Ob → (BK → AV) → Bool) (n : Nat) : Bool := byteCells l (kSu n K)
noncomputable def s2b1 (K : Ob → (BK → AV) → Bool) (l : List Nat) : Bool := len l (s2b2 l K)
noncomputable def mAl (g : Tg) (l : List AV) : MT := fun _ _ K => K (.cells g l) ptr0
noncomputable def mBx (t : Nat) (a : X) : MT := fun st e K => cellsOf (opd a st e) (mBx2 t K)
noncomputable def mBs (n : Nat) (l : List Pc) : MT := fun st e K => evP l st e (kSl n n K)
noncomputable def mMs (z : List AV) (l c : X) : MT := fun st e K => asN (opd l st e) (mMs1 z (opd c st e) K)
noncomputable def mMm : MT := fun _ _ K => K (.map []) .m
noncomputable def mS2b (a : X) : MT := fun st e K => asS (opd a st e) (s2b1 K)
noncomputable def evA : AI → MT := AI.rec (motive := fun _ => MT) mAl mBx mBs mMs mMm mS2b

/-! ### the state -/
structure St where
  mk ::
  call : CT
  e : Env
  ds : List AV
  h : Heap
  nx : BK
noncomputable def St.withH : St → Heap → (St → Bool) → Bool := St.rec (motive := fun _ => Heap → (St → Bool) → Bool) (fun c e ds _ nx h K => K (.mk c e ds h nx))
noncomputable def St.withE : St → Env → (St → Bool) → Bool := St.rec (motive := fun _ => Env → (St → Bool) → Bool) (fun c _ ds h nx e K => K (.mk c e ds h nx))
noncomputable def St.withHn : St → Heap → BK → (St → Bool) → Bool := St.rec (motive := fun _ => Heap → BK → (St → Bool) → Bool) (fun c e ds _ _ h nx K => K (.mk c e ds h nx))
noncomputable def St.withD : St → AV → (St → Bool) → Bool := St.rec (motive := fun _ => AV → (St → Bool) → Bool) (fun c e ds h nx d K => K (.mk c e (d :: ds) h nx))
abbrev KV := AV → St → Bool
abbrev ET := St → List AV → KV → KV → Bool
noncomputable def ne2 (k : BK) (S : St) (K : BK → St → Bool) (h : Heap) (nx : BK) : Bool := S.withHn h nx (K k)
noncomputable def ne1 (k : BK) (S : St) (K : BK → St → Bool) (h : Heap) : Bool := binc k (ne2 k S K h)
noncomputable def isNo : Ob → Bool := Ob.rec (motive := fun _ => Bool) true (fun _ _ => false) (fun _ => false) (fun _ _ _ _ => false)
noncomputable def ne0 (ob : Ob) (S : St) (K : BK → St → Bool) (k : BK) : Bool := ifb (isNo (hat S.h k)) (hput S.h k ob (ne1 k S K)) false
noncomputable def bkK : BK → (BK → Bool) → Bool := BK.rec (motive := fun _ => (BK → Bool) → Bool) (fun K => K .z) (fun d k _ K => K (.s d k))
/-- a new block -/
noncomputable def new (ob : Ob) (S : St) (K : BK → St → Bool) : Bool := bkK S.nx (ne0 ob S K)
noncomputable def wr3 (S : St) (K : St → Bool) (h : Heap) : Bool := S.withH h K
noncomputable def wr2 (S : St) (k : BK) (g : Tg) (K : St → Bool) (c : List AV) : Bool := hput S.h k (.cells g c) (wr3 S K)
noncomputable def obC : Ob → (Tg → List AV → Bool) → Bool := Ob.rec (motive := fun _ => (Tg → List AV → Bool) → Bool) (fun _ => false) (fun g l K => K g l) (fun _ _ => false) (fun _ _ _ _ _ => false)
noncomputable def wr1 (S : St) (k : BK) (o : Nat) (l : List AV) (K : St → Bool) (g : Tg) (c : List AV) : Bool := ovr o l c (wr2 S k g K)
/-- cells of a block written -/
noncomputable def wr (S : St) (k : BK) (o : Nat) (l : List AV) (K : St → Bool) : Bool := ifb (nul l) (K S) (obC (hat S.h k) (wr1 S k o l K))
noncomputable def st2 (n : Nat) (k : BK) (o : Nat) (S : St) (K : KV) (l : List AV) : Bool := ifb (Nat.beq (lenD l) n) (wr S k o l (K (.k .u))) false
noncomputable def st1 (n : Nat) (v : AV) (S : St) (K : KV) (k : BK) (o : Nat) : Bool := cellsOf v (st2 n k o S K)
noncomputable def eSt (n : Nat) (a v : X) : ET := fun S st K _ => asP (opd a st S.e) (st1 n (opd v st S.e) S K)
noncomputable def bcase (v : AV) (y n f : Bool) : Bool := ifb (isB v) (ifb (vBool v) y n) f
noncomputable def pcase : AV × AV → (AV → AV → Bool) → Bool := Prod.rec (motive := fun _ => (AV → AV → Bool) → Bool) fun a b K => K a b
abbrev MpT := AV → AV → Bool → List Nat → (List (AV × AV) → Bool) → Bool
noncomputable def mp3 (k v : AV) (g : Bool) (ks : List Nat) (r : List (AV × AV)) (ih : MpT) (K : List (AV × AV) → Bool) (k' v' : AV) : Bool := bcase (keqV k g ks k') (K ((k, v) :: r)) (ih k v g ks (kcons K (k', v'))) false
noncomputable def mput : List (AV × AV) → MpT := List.rec (motive := fun _ => MpT) (fun k v _ _ K => K [(k, v)]) (fun x r ih k v g ks K => pcase x (mp3 k v g ks r ih K))
noncomputable def mu5 (b : BK) (S : St) (K : KV) (es : List (AV × AV)) : Bool := hput S.h b (.map es) (wr3 S (K (.k .u)))
noncomputable def obM : Ob → (List (AV × AV) → Bool) → Bool := Ob.rec (motive := fun _ => (List (AV × AV) → Bool) → Bool) (fun _ => false) (fun _ _ _ => false) (fun l K => K l) (fun _ _ _ _ _ => false)
noncomputable def mu4 (b : BK) (k : AV) (g : Bool) (ks : List Nat) (S : St) (K : KV) (v : AV) (es : List (AV × AV)) : Bool := mput es k v g ks (mu5 b S K)
noncomputable def mu3 (b : BK) (k : AV) (g : Bool) (ks : List Nat) (S : St) (K : KV) (v : AV) : Bool := obM (hat S.h b) (mu4 b k g ks S K v)
noncomputable def mu2 (b : BK) (v : AV) (g : Bool) (ks : List Nat) (S : St) (K : KV) (k : AV) : Bool := frcV v (mu3 b k g ks S K)
noncomputable def mu1 (k v : AV) (g : Bool) (ks : List Nat) (S : St) (K : KV) (b : BK) : Bool := frcV k (mu2 b v g ks S K)
noncomputable def eMu (g : Bool) (ks : List Nat) (m k v : X) : ET := fun S st K _ => ifb (keyOk (opd k st S.e) g ks) (asM (opd m st S.e) (mu1 (opd k st S.e) (opd v st S.e) g ks S K)) false
noncomputable def kre (S : St) (K : KV) (v : AV) (h : Heap) (nx : BK) : Bool := S.withHn h nx (K v)
noncomputable def ec1 (f : FK) (S : St) (K P : KV) (l : List AV) : Bool := S.call f l S.h S.nx (kre S K) (kre S P)
noncomputable def eCall (f : FK) (args : List X) : ET := fun S st K P => evXs args st S.e (ec1 f S K P)
noncomputable def ev4 (f : FK) (first : List AV) (S : St) (K P : KV) (l : List AV) : Bool := app first l (ec1 f S K P)
noncomputable def ev3 (f : FK) (first cap : List AV) (S : St) (K P : KV) (l : List AV) : Bool := app l cap (ev4 f first S K P)
noncomputable def ev2 (args : List X) (S : St) (st : List AV) (K P : KV) (f : FK) (first cap : List AV) : Bool := evXs args st S.e (ev3 f first cap S K P)
noncomputable def eCv (f : X) (args : List X) : ET := fun S st K P => asFn (opd f st S.e) (ev2 args S st K P)
/-- what is appended: how many elements, their cells -/
noncomputable def src5 (K : Nat → List AV → Bool) (l : List Nat) (n : Nat) : Bool := byteCells l (K n)
noncomputable def srC : Kc → (Nat → List AV → Bool) → Bool := Kc.rec (motive := fun _ => (Nat → List AV → Bool) → Bool) (fun _ => false) (fun _ => false) (fun _ => false) (fun _ => false) (fun K => K 0 []) (fun _ => false) (fun _ => false) (fun _ => false)
noncomputable def srcOf : AV → Nat → Heap → (Nat → List AV → Bool) → Bool := AV.rec (motive_1 := fun _ => Nat → Heap → (Nat → List AV → Bool) → Bool) (motive_2 := fun _ => Unit) (fun x0 _ _ K => srC x0 K) (fun _ _ _ _ => false) (fun _ _ _ _ _ => false) (fun x0 sz _ K => ifb (Nat.beq sz 1) (len x0 (src5 K x0)) false) (fun _ _ _ _ _ => false) (fun x0 x1 x2 _ sz h K => cellsAt h (Nat.mul x2 sz) (K x2) x0 x1) (fun _ _ _ _ => false) (fun _ _ _ _ _ _ _ _ => false) (fun _ _ _ _ _ _ => false) (fun _ _ _ _ _ => false) (fun _ _ _ _ _ => false) (fun _ _ _ _ _ _ _ => false) () (fun _ _ _ _ => ())
noncomputable def api2 (k : BK) (o : Nat) (cap : Cp) (K : KV) (S : St) (m : Nat) : Bool := K (.sl k o m cap) S
noncomputable def api1 (k : BK) (o len n : Nat) (cap : Cp) (K : KV) (S : St) : Bool := frc (Nat.add len n) (api2 k o cap K S)
/-- appended in place -/
noncomputable def apIn (sz : Nat) (k : BK) (o len n : Nat) (cap : Cp) (l : List AV) (S : St) (K : KV) : Bool := wr S k (Nat.add o (Nat.mul len sz)) l (api1 k o len n cap K)
noncomputable def apn3 (sz len n : Nat) (K : KV) (b : BK) (S : St) : Bool := frc (Nat.add len n) (api2 b 0 (.un sz) K S)
noncomputable def tgK : Tg → Nat → (Tg → Bool) → Bool := Tg.rec (motive := fun _ => Nat → (Tg → Bool) → Bool) (fun _ K => K .o) (fun _ _ _ K => K .o) (fun t e K => ifb (Nat.beq t e) (K (.r e)) (K .o))
noncomputable def obT : Ob → Tg := Ob.rec (motive := fun _ => Tg) .o (fun g _ => g) (fun _ => .o) (fun _ _ _ _ => .o)
noncomputable def apn4 (sz len n : Nat) (S : St) (K : KV) (l : List AV) (g : Tg) : Bool := new (.cells g l) S (apn3 sz len n K)
noncomputable def apn2 (e sz : Nat) (k : BK) (o len n : Nat) (S : St) (K : KV) (l : List AV) : Bool := ifb (Nat.beq o 0) (tgK (obT (hat S.h k)) e (apn4 sz len n S K l)) (apn4 sz len n S K l .o)
noncomputable def apn1 (e sz : Nat) (k : BK) (o len n : Nat) (l : List AV) (S : St) (K : KV) (old : List AV) : Bool := app old l (apn2 e sz k o len n S K)
/-- appended to in a new block -/
noncomputable def apNew (e sz : Nat) (k : BK) (o len n : Nat) (l : List AV) (S : St) (K : KV) : Bool := ifb (Nat.ble (Nat.add len n) 1000000) (cellsAt S.h (Nat.mul len sz) (apn1 e sz k o len n l S K) k o) false
/-- the elder block is not read again -/
noncomputable def kgone (k : BK) (K : KV) (v : AV) (S : St) : Bool := hput S.h k .no (wr3 S (K v))
noncomputable def liveO : Ob → Bool := Ob.rec (motive := fun _ => Bool) false (fun _ _ => true) (fun _ => false) (fun _ _ _ _ => false)
noncomputable def apU (e sz : Nat) (k : BK) (o len n : Nat) (l : List AV) (S : St) (K : KV) : Bool :=
  ifb (liveO (hat S.h k)) (ifb (Nat.ble (Nat.add o (Nat.mul (Nat.add len n) sz)) (lenD (obL (hat S.h k)))) (apIn sz k o len n (.un sz) l S K) (apNew e sz k o len n l S (kgone k K))) false
noncomputable def apK (c : Nat) (e sz : Nat) (k : BK) (o len n : Nat) (l : List AV) (S : St) (K : KV) : Bool := ifb (Nat.ble (Nat.add len n) c) (apIn sz k o len n (.kn c) l S K) (apNew e sz k o len n l S K)
noncomputable def apU0 (z e sz : Nat) (k : BK) (o len n : Nat) (l : List AV) (S : St) (K : KV) : Bool := ifb (Nat.beq z sz) (apU e sz k o len n l S K) false
noncomputable def apc : Cp → Nat → Nat → BK → Nat → Nat → Nat → List AV → St → KV → Bool := Cp.rec (motive := fun _ => Nat → Nat → BK → Nat → Nat → Nat → List AV → St → KV → Bool) apK apU0
noncomputable def ap3 (e sz n : Nat) (l : List AV) (S : St) (K : KV) (k : BK) (o len : Nat) (cap : Cp) : Bool := ifb (Nat.beq n 0) (K (.sl k o len cap) S) (apc cap e sz k o len n l S K)
noncomputable def apz (sz n : Nat) (K : KV) (b : BK) (S : St) : Bool := K (.sl b 0 n (.un sz)) S
noncomputable def ap2 (e sz : Nat) (s : AV) (S : St) (K : KV) (n : Nat) (l : List AV) : Bool :=
  asSl s (ifb (Nat.beq n 0) (K (.k .sln) S) (ifb (Nat.ble n 1000000) (new (.cells (.r e) l) S (apz sz n K)) false)) (ap3 e sz n l S K)
noncomputable def eAp (e sz : Nat) (s x : X) : ET := fun S st K _ => srcOf (opd x st S.e) sz S.h (ap2 e sz (opd s st S.e) S K)
noncomputable def cp6 (k : BK) (o n : Nat) (S : St) (K : KV) (l : List AV) : Bool := wr S k o l (K (.i .i64 (Int.ofNat n)))
noncomputable def cp4 (sz : Nat) (k : BK) (o : Nat) (l : List AV) (S : St) (K : KV) (n : Nat) : Bool := ifb (Nat.beq n 0) (K (.i .i64 (Int.ofNat 0)) S) (tak (Nat.mul n sz) l (cp6 k o n S K))
noncomputable def cp3 (sz n : Nat) (l : List AV) (S : St) (K : KV) (k : BK) (o len : Nat) (_ : Cp) : Bool := frc (ifn (Nat.ble n len) n len) (cp4 sz k o l S K)
noncomputable def cp2 (sz : Nat) (d : AV) (S : St) (K : KV) (n : Nat) (l : List AV) : Bool := asSl d (K (.i .i64 (Int.ofNat 0)) S) (cp3 sz n l S K)
noncomputable def eCp (sz : Nat) (d s : X) : ET := fun S st K _ => srcOf (opd s st S.e) sz S.h (cp2 sz (opd d st S.e) S K)
noncomputable def clr2 (k : BK) (o : Nat) (S : St) (K : KV) (l : List AV) : Bool := wr S k o l (K (.tup []))
noncomputable def clr1 (z : List AV) (S : St) (K : KV) (k : BK) (o n : Nat) (_ : Cp) : Bool := ifb (Nat.beq n 0) (K (.tup []) S) (rep n z (clr2 k o S K))
noncomputable def eClr (z : List AV) (a : X) : ET := fun S st K _ => asSl (opd a st S.e) (K (.tup []) S) (clr1 z S K)
noncomputable def df4 (f : FK) (cap : List AV) (S : St) (K : KV) (l : List AV) : Bool := S.withD (.fn f l cap) (K (.k .u))
noncomputable def df3 (f : FK) (first cap : List AV) (S : St) (K : KV) (l : List AV) : Bool := app first l (df4 f cap S K)
noncomputable def df2 (args : List X) (S : St) (st : List AV) (K : KV) (f : FK) (first cap : List AV) : Bool := evXs args st S.e (df3 f first cap S K)
noncomputable def eDf (f : X) (args : List X) : ET := fun S st K _ => asFn (opd f st S.e) (df2 args S st K)
noncomputable def pan0 (S : St) (P : KV) (v : AV) : Bool := isIf v (P v S)
noncomputable def ePan (a : X) : ET := fun S st _ P => frcV (opd a st S.e) (pan0 S P)
/-- a text made of the bytes of a row, which is not read again -/
noncomputable def us6 (S : St) (K : KV) (s : List Nat) (h : Heap) : Bool := S.withH h (K (.s s))
noncomputable def us5 (k : BK) (S : St) (K : KV) (s : List Nat) : Bool := hput S.h k .no (us6 S K s)
noncomputable def byI : Int → (Nat → Bool) → Bool := Int.rec (motive := fun _ => (Nat → Bool) → Bool) (fun n K => ifb (Nat.ble n 255) (K n) false) (fun _ _ => false)
noncomputable def byK : IntKind → Int → (Nat → Bool) → Bool := IntKind.rec (motive := fun _ => Int → (Nat → Bool) → Bool) (fun _ _ => false) (fun _ _ => false) (fun _ _ => false) (fun _ _ => false) byI (fun _ _ => false) (fun _ _ => false) (fun _ _ => false)
noncomputable def byV : AV → (Nat → Bool) → Bool := AV.rec (motive_1 := fun _ => (Nat → Bool) → Bool) (motive_2 := fun _ => Unit) (fun _ _ => false) (fun _ _ => false) (fun x0 x1 K => byK x0 x1 K) (fun _ _ => false) (fun _ _ _ => false) (fun _ _ _ _ _ => false) (fun _ _ => false) (fun _ _ _ _ _ _ => false) (fun _ _ _ _ => false) (fun _ _ _ => false) (fun _ _ _ => false) (fun _ _ _ _ _ => false) () (fun _ _ _ _ => ())
noncomputable def byS (ih : (List Nat → Bool) → Bool) (K : List Nat → Bool) (n : Nat) : Bool := ih (kcons K n)
noncomputable def byA : List AV → (List Nat → Bool) → Bool := List.rec (motive := fun _ => (List Nat → Bool) → Bool) (fun K => K []) (fun x _ ih K => byV x (byS ih K))
noncomputable def us4 (k : BK) (S : St) (K : KV) (l : List AV) : Bool := byA l (us5 k S K)
noncomputable def us3 (e n : Nat) (k : BK) (S : St) (K : KV) (g : Tg) (l : List AV) : Bool := ifb (tgR g e) (ifb (Nat.ble n (lenD l)) (tak n l (us4 k S K)) false) false
noncomputable def us2 (e n : Nat) (S : St) (K : KV) (k : BK) (o : Nat) : Bool := ifb (Nat.beq o 0) (ifb (Nat.ble n 1000000) (obC (hat S.h k) (us3 e n k S K)) false) false
noncomputable def us1 (e : Nat) (p : AV) (S : St) (K : KV) (n : Nat) : Bool := ifb (Nat.beq n 0) false (asP p (us2 e n S K))
noncomputable def asN64 : AV → (Nat → Bool) → Bool := AV.rec (motive_1 := fun _ => (Nat → Bool) → Bool) (motive_2 := fun _ => Unit) (fun _ _ => false) (fun _ _ => false) (fun x0 x1 K => ifb (kq .i64 x0) (inatK x1 K) false) (fun _ _ => false) (fun _ _ _ => false) (fun _ _ _ _ _ => false) (fun _ _ => false) (fun _ _ _ _ _ _ => false) (fun _ _ _ _ => false) (fun _ _ _ => false) (fun _ _ _ => false) (fun _ _ _ _ _ => false) () (fun _ _ _ _ => ())
noncomputable def eUs (e : Nat) (a n : X) : ET := fun S st K _ => asN64 (opd n st S.e) (us1 e (opd a st S.e) S K)
/-- an iterator made -/
noncomputable def rg4 (K : KV) (k : BK) (S : St) : Bool := K (.p k 0) S
noncomputable def rg3 (b : BK) (S : St) (K : KV) (n : Nat) : Bool := new (.it b n [] n) S (rg4 K)
noncomputable def rg2 (b : BK) (S : St) (K : KV) (es : List (AV × AV)) : Bool := frc (lenD es) (rg3 b S K)
noncomputable def rg1 (S : St) (K : KV) (b : BK) : Bool := obM (hat S.h b) (rg2 b S K)
noncomputable def eRg (m : X) : ET := fun S st K _ => asM (opd m st S.e) (rg1 S K)
noncomputable def obI : Ob → (BK → Nat → List Nat → Nat → Bool) → Bool := Ob.rec (motive := fun _ => (BK → Nat → List Nat → Nat → Bool) → Bool) (fun _ => false) (fun _ _ _ => false) (fun _ _ => false) (fun b s l n K => K b s l n)
noncomputable def memN (i : Nat) : List Nat → Bool := List.rec (motive := fun _ => Bool) false (fun x _ ih => ifb (Nat.beq i x) true ih)
/-- an iterator moved on: every entry that it has not seen may come next -/
noncomputable def nx5 (k b : BK) (since : Nat) (seen : List Nat) (n i : Nat) (S : St) (K : KV) (kv vv : AV) : Bool := hput S.h k (.it b since (i :: seen) n) (wr3 S (K (.tup [.b true, kv, vv])))
noncomputable def nx4 (k b : BK) (since : Nat) (seen : List Nat) (n : Nat) (S : St) (K : KV) (x : AV × AV) (i : Nat) : Bool := ifb (memN i seen) true (pcase x (nx5 k b since seen n i S K))
noncomputable def nxA : List (AV × AV) → (AV × AV → Nat → Bool) → Nat → Bool := List.rec (motive := fun _ => (AV × AV → Nat → Bool) → Nat → Bool) (fun _ _ => true) (fun x _ ih f i => ifb (f x i) (ih f (Nat.add i 1)) false)
noncomputable def nxS (seen : List Nat) (_ : AV × AV) (i : Nat) : Bool := memN i seen
noncomputable def nx3 (k b : BK) (since : Nat) (seen : List Nat) (last : Nat) (es : List (AV × AV)) (S : St) (K : KV) (n : Nat) : Bool :=
  ifb (Nat.ble n since) (ifb (ifb (nul seen) true (ifb (Nat.beq n 0) true (Nat.blt 0 last))) (ifb (nxA es (nxS seen) 0) (K (.tup [.b false]) S) (nxA es (nx4 k b since seen n S K) 0)) false) false
noncomputable def nx2 (k b : BK) (since : Nat) (seen : List Nat) (last : Nat) (S : St) (K : KV) (es : List (AV × AV)) : Bool := frc (lenD es) (nx3 k b since seen last es S K)
noncomputable def nx1 (k : BK) (S : St) (K : KV) (b : BK) (since : Nat) (seen : List Nat) (last : Nat) : Bool := obM (hat S.h b) (nx2 k b since seen last S K)
noncomputable def nx0 (S : St) (K : KV) (k : BK) (o : Nat) : Bool := ifb (Nat.beq o 0) (obI (hat S.h k) (nx1 k S K)) false
noncomputable def eNx (a : X) : ET := fun S st K _ => asP (opd a st S.e) (nx0 S K)
noncomputable def evE : EI → ET := EI.rec (motive := fun _ => ET) eSt eMu eCall eCv eAp eCp eClr eDf ePan eRg eNx eUs

/-! ### regions -/
noncomputable def soC : Ob → Tg → List AV → Bool := Ob.rec (motive := fun _ => Tg → List AV → Bool) (fun _ _ => false) (fun g m g' l => ifb (sameT g' g) (sames l m) false) (fun _ _ _ => false) (fun _ _ _ _ _ _ => false)
noncomputable def soM : Ob → List (AV × AV) → Bool := Ob.rec (motive := fun _ => List (AV × AV) → Bool) (fun _ => false) (fun _ _ _ => false) (fun m l => ifb (nul l) (nul m) false) (fun _ _ _ _ _ => false)
noncomputable def sameOb : Ob → Ob → Bool := Ob.rec (motive := fun _ => Ob → Bool) (fun _ => false) (fun g l b => soC b g l) (fun l b => soM b l) (fun _ _ _ _ _ => false)
abbrev ChT := List AV → Env → Heap → Bool → Bool
noncomputable def cr1 (w : AV) (ih : Bool) (v : AV) : Bool := ifb (same v w) ih false
noncomputable def rcase : RI × X → (RI → X → Bool) → Bool := Prod.rec (motive := fun _ => (RI → X → Bool) → Bool) fun a b K => K a b
noncomputable def acase : AI × X → (AI → X → Bool) → Bool := Prod.rec (motive := fun _ => (AI → X → Bool) → Bool) fun a b K => K a b
noncomputable def cr0 (st : List AV) (e : Env) (h : Heap) (ih : Bool) (r : RI) (y : X) : Bool := evR r st e h (cr1 (opd y st e) ih)
noncomputable def chkR : List (RI × X) → ChT := List.rec (motive := fun _ => ChT) (fun _ _ _ K => K) (fun x _ ih st e h K => rcase x (cr0 st e h (ih st e h K)))
noncomputable def ca3 (w : AV) (h : Heap) (ob : Ob) (mk : BK → AV) (ih : Bool) (k : BK) : Bool := ifb (sameOb ob (hat h k)) (ifb (same w (mk k)) ih false) false
noncomputable def ca1 (w : AV) (h : Heap) (ih : Bool) (ob : Ob) (mk : BK → AV) : Bool := keyOf w (ca3 w h ob mk ih)
noncomputable def ca0 (st : List AV) (e : Env) (h : Heap) (ih : Bool) (r : AI) (y : X) : Bool := evA r st e (ca1 (opd y st e) h ih)
noncomputable def chkA : List (AI × X) → ChT := List.rec (motive := fun _ => ChT) (fun _ _ _ K => K) (fun x _ ih st e h K => acase x (ca0 st e h (ih st e h K)))
/-- how a region ends: at its end, or by a panic -/
inductive PO where
  | ok | pn (v : AV)
abbrev KR := PO → List AV → St → Bool
abbrev IH := St → KR → List AV → Bool
abbrev IT := IH → St → KR → List AV → Bool
noncomputable def psh (ih : IH) (S : St) (K : KR) (st : List AV) (v : AV) : Bool := ih S K (v :: st)
noncomputable def pshS (ih : IH) (K : KR) (st : List AV) (v : AV) (S : St) : Bool := ih S K (v :: st)
noncomputable def iR (i : RI) : IT := fun ih S K st => evR i st S.e S.h (psh ih S K st)
noncomputable def kqk (k l : BK) : Bool := decide (k = l)
noncomputable def ia1 (mk : BK → AV) (ih : IH) (K : KR) (st : List AV) (k : BK) (S : St) : Bool := ifb (keyOf (mk k) (kqk k)) (frcV (mk k) (psh ih S K st)) false
noncomputable def ia0 (ih : IH) (S : St) (K : KR) (st : List AV) (ob : Ob) (mk : BK → AV) : Bool := new ob S (ia1 mk ih K st)
noncomputable def iA (i : AI) : IT := fun ih S K st => evA i st S.e (ia0 ih S K st)
noncomputable def ie2 (ck : List (RI × X)) (ca : List (AI × X)) (ih : IH) (K : KR) (S : St) (st : List AV) : Bool := chkR ck st S.e S.h (chkA ca st S.e S.h (ih S K st))
noncomputable def ie0 (ck : List (RI × X)) (ca : List (AI × X)) (ih : IH) (K : KR) (st : List AV) (v : AV) (S : St) : Bool := ie2 ck ca ih K S (v :: st)
noncomputable def kpn (K : KR) (v : AV) (S : St) : Bool := K (.pn v) [] S
noncomputable def iE (i : EI) (ck : List (RI × X)) (ca : List (AI × X)) : IT := fun ih S K st => evE i S st (ie0 ck ca ih K st) (kpn K)
noncomputable def iG (w : Bool) (c : X) (_ : It) (g : IT) : IT := fun ih S K st => grd (opd c st S.e) w (g ih S K st) (ih S K (.k .u :: st))
noncomputable def evI : It → IT := It.rec (motive := fun _ => IT) iR iA iE iG
noncomputable def evIts : List It → IH := List.rec (motive := fun _ => IH) (fun S K st => K .ok st S) (fun i _ ih S K st => evI i ih S K st)
abbrev SaT := List AV → Env → Env → (Env → Bool) → Bool
noncomputable def scase : VK × X → (VK → X → Bool) → Bool := Prod.rec (motive := fun _ => (VK → X → Bool) → Bool) fun a b K => K a b
noncomputable def sa3 (ih : SaT) (st : List AV) (e0 : Env) (K : Env → Bool) (e : Env) : Bool := ih st e0 e K
noncomputable def sa2 (ih : SaT) (st : List AV) (e0 e : Env) (K : Env → Bool) (k : VK) (v : AV) : Bool := vput e k v (sa3 ih st e0 K)
noncomputable def sa1 (ih : SaT) (st : List AV) (e0 e : Env) (K : Env → Bool) (k : VK) (j : X) : Bool := frcV (opd j st e0) (sa2 ih st e0 e K k)
noncomputable def setAll : List (VK × X) → SaT := List.rec (motive := fun _ => SaT) (fun _ _ e K => K e) (fun x _ ih st e0 e K => scase x (sa1 ih st e0 e K))
noncomputable def cl1 (ih : SaT) (e : Env) (K : Env → Bool) (k : VK) (_ : X) : Bool := vput e k (.k .x) (sa3 ih [] e K)
noncomputable def clrAll : List (VK × X) → SaT := List.rec (motive := fun _ => SaT) (fun _ _ e K => K e) (fun x _ ih _ _ e K => scase x (cl1 ih e K))

/-! ### code -/
inductive Ex where
  | nrm | ex (id : Nat) | rt | pn (v : AV)
abbrev KX := Ex → St → Bool
abbrev CoT := St → KX → Bool
noncomputable def kee (x : Ex) (S : St) (K : KX) (e : Env) : Bool := S.withE e (K x)
noncomputable def po : PO → (List (VK × X)) → KX → List AV → St → Bool := PO.rec (motive := fun _ => (List (VK × X)) → KX → List AV → St → Bool)
  (fun s K st S => setAll s st S.e S.e (kee .nrm S K)) (fun v s K _ S => clrAll s [] S.e S.e (kee (.pn v) S K))
noncomputable def krg (s : List (VK × X)) (K : KX) (o : PO) (st : List AV) (S : St) : Bool := po o s K st S
noncomputable def cReg (its : List It) (s : List (VK × X)) : CoT := fun S K => evIts its S (krg s K) []
noncomputable def kc2 (v : AV) (a b : CoT) (K : KX) (S : St) : Bool := bcase v (a S K) (b S K) false
noncomputable def kc1 (v : AV) (a b : CoT) (S : St) (K : KX) (e : Env) : Bool := S.withE e (kc2 v a b K)
noncomputable def poc : PO → (List (VK × X)) → X → CoT → CoT → KX → List AV → St → Bool := PO.rec (motive := fun _ => (List (VK × X)) → X → CoT → CoT → KX → List AV → St → Bool)
  (fun s j a b K st S => setAll s st S.e S.e (kc1 (opd j st S.e) a b S K)) (fun v s _ _ _ K _ S => clrAll s [] S.e S.e (kee (.pn v) S K))
noncomputable def krc (s : List (VK × X)) (j : X) (a b : CoT) (K : KX) (o : PO) (st : List AV) (S : St) : Bool := poc o s j a b K st S
noncomputable def cRegc (its : List It) (s : List (VK × X)) (j : X) (_ _ : Co) (a b : CoT) : CoT := fun S K => evIts its S (krc s j a b K) []
noncomputable def exs : Ex → CoT → St → KX → Bool := Ex.rec (motive := fun _ => CoT → St → KX → Bool) (fun b S K => b S K) (fun i _ S K => K (.ex i) S) (fun _ S K => K .rt S) (fun v _ S K => K (.pn v) S)
noncomputable def cs1 (b : CoT) (K : KX) (x : Ex) (S : St) : Bool := exs x b S K
noncomputable def cSeq (_ _ : Co) (a b : CoT) : CoT := fun S K => a S (cs1 b K)
noncomputable def cCond (c : X) (_ _ : Co) (a b : CoT) : CoT := fun S K => bcase (opd c [] S.e) (a S K) (b S K) false
noncomputable def exb : Ex → Nat → St → KX → Bool := Ex.rec (motive := fun _ => Nat → St → KX → Bool) (fun _ S K => K .nrm S) (fun i id S K => ifb (Nat.beq i id) (K .nrm S) (K (.ex i) S)) (fun _ S K => K .rt S) (fun v _ S K => K (.pn v) S)
noncomputable def cb1 (id : Nat) (K : KX) (x : Ex) (S : St) : Bool := exb x id S K
noncomputable def cBlock (id : Nat) (_ : Co) (a : CoT) : CoT := fun S K => a S (cb1 id K)
noncomputable def cLoopN : Nat → CoT → CoT := Nat.rec (motive := fun _ => CoT → CoT) (fun _ _ _ => false) (fun _ ih a S K => a S (cs1 (ih a) K))
noncomputable def cLoop (_ : Co) (a : CoT) : CoT := cLoopN 1000000 a
/-- a table asked for a row of values -/
noncomputable def vl1 (ih : Env → (List AV → Bool) → Bool) (e : Env) (K : List AV → Bool) (v : AV) : Bool := ih e (kcons K v)
noncomputable def vals : List VK → Env → (List AV → Bool) → Bool := List.rec (motive := fun _ => Env → (List AV → Bool) → Bool) (fun _ K => K []) (fun k _ ih e K => frcV (vat e k) (vl1 ih e K))
noncomputable def mcase : List AV × AV → (List AV → AV → Bool) → Bool := Prod.rec (motive := fun _ => (List AV → AV → Bool) → Bool) fun a b K => K a b
noncomputable def ml1 (l : List AV) (K : AV → Bool) (N : Bool) (a : List AV) (v : AV) : Bool := ifb (sames a l) (K v) N
noncomputable def mlk : List (List AV × AV) → List AV → (AV → Bool) → Bool := List.rec (motive := fun _ => List AV → (AV → Bool) → Bool) (fun _ _ => false) (fun x _ ih l K => mcase x (ml1 l K (ih l K)))
noncomputable def cm1 (k : VK) (S : St) (K : KX) (v : AV) : Bool := vput S.e k v (kee .nrm S K)
noncomputable def cm0 (t : List (List AV × AV)) (k : VK) (S : St) (K : KX) (l : List AV) : Bool := mlk t l (cm1 k S K)
noncomputable def cMem (vs : List VK) (t : List (List AV × AV)) (k : VK) : CoT := fun S K => vals vs S.e (cm0 t k S K)
/-- a table asked where the heap is known to hold some blocks -/
noncomputable def sn1 (h : Heap) (ih : Bool) (k : BK) (ob : Ob) : Bool := ifb (sameOb ob (hat h k)) ih false
noncomputable def sncase : BK × Ob → (BK → Ob → Bool) → Bool := Prod.rec (motive := fun _ => (BK → Ob → Bool) → Bool) fun a b K => K a b
noncomputable def snap : List (BK × Ob) → Heap → Bool → Bool := List.rec (motive := fun _ => Heap → Bool → Bool) (fun _ K => K) (fun x _ ih h K => sncase x (sn1 h (ih h K)))
noncomputable def cSmem (vs : List VK) (s : List (BK × Ob)) (t : List (List AV × AV)) (k : VK) : CoT := fun S K => snap s S.h (vals vs S.e (cm0 t k S K))
/-- one more rest of an integer: each may be -/
noncomputable def asQ : AV → (List (Bool × Nat) → List AV → Bool) → Bool := AV.rec (motive_1 := fun _ => (List (Bool × Nat) → List AV → Bool) → Bool) (motive_2 := fun _ => Unit) (fun _ _ => false) (fun _ _ => false) (fun _ _ _ => false) (fun _ _ => false) (fun _ _ _ => false) (fun _ _ _ _ _ => false) (fun _ _ => false) (fun _ _ _ _ _ _ => false) (fun _ _ _ _ => false) (fun _ _ _ => false) (fun _ _ _ => false) (fun x0 x1 x2 _ K => ifb (kq .u8 x0) (K x1 x2) false) () (fun _ _ _ _ => ())
noncomputable def allN (f : Nat → Bool) : Nat → Bool := Nat.rec (motive := fun _ => Bool) true (fun j ih => ifb (f j) ih false)
noncomputable def sp6 (b : CoT) (K : KX) (S : St) : Bool := b S K
noncomputable def sp5 (b : CoT) (S : St) (K : KX) (e : Env) : Bool := S.withE e (sp6 b K)
noncomputable def sp4 (k : VK) (b : CoT) (S : St) (K : KX) (t : List (Bool × Nat)) (l : List AV) : Bool := vput S.e k (.q .u8 t l) (sp5 b S K)
noncomputable def sp3' (k : VK) (b : CoT) (S : St) (K : KX) (l : List AV) (j : Nat) (t : List (Bool × Nat)) : Bool := app l [.i .u8 (Int.ofNat j)] (sp4 k b S K t)
noncomputable def sp2 (k : VK) (m : Nat) (b : CoT) (S : St) (K : KX) (t : List (Bool × Nat)) (l : List AV) (j : Nat) : Bool := app t [(true, m)] (sp3' k b S K l j)
noncomputable def sp1' (k : VK) (m : Nat) (b : CoT) (S : St) (K : KX) (t : List (Bool × Nat)) (l : List AV) : Bool := ifb (Nat.blt 0 m) (allN (sp2 k m b S K t l) m) false
noncomputable def cSpl (k : VK) (m : Nat) (_ : Co) (b : CoT) : CoT := fun S K => asQ (vat S.e k) (sp1' k m b S K)
noncomputable def evC : Co → CoT := Co.rec (motive := fun _ => CoT) (fun S K => K .nrm S) cReg cRegc cSeq cCond cBlock cLoop (fun id S K => K (.ex id) S) (fun S K => K .rt S) cMem cSmem cSpl

/-! ### calls -/
abbrev SpT := List AV → Env → (Env → Bool) → Bool
noncomputable def sp3 (ih : SpT) (st : List AV) (K : Env → Bool) (e : Env) : Bool := ih st e K
noncomputable def sp1 (k : VK) (ih : SpT) (e : Env) (K : Env → Bool) (v : AV) (r : List AV) : Bool := vput e k v (sp3 ih r K)
noncomputable def setPar : List VK → SpT := List.rec (motive := fun _ => SpT) (fun a e K => ifb (nul a) (K e) false) (fun p _ ih a e K => lcase a false (sp1 p ih e K))
abbrev RsT := Env → Heap → (List AV → Bool) → Bool
noncomputable def rs1 (ih : RsT) (e : Env) (h : Heap) (K : List AV → Bool) (v : AV) : Bool := ih e h (kcons K v)
noncomputable def roc : Option Nat → AV → Heap → (AV → Bool) → Bool := Option.rec (motive := fun _ => AV → Heap → (AV → Bool) → Bool) (fun v h K => frcV (ldV v h) K) (fun n v h K => asP v (cellsAt h n (kagg K)))
noncomputable def resOf : RV → Env → Heap → (AV → Bool) → Bool := RV.rec (motive := fun _ => Env → Heap → (AV → Bool) → Bool) (fun k e _ K => frcV (vat e k) K) (fun k n e h K => roc n (vat e k) h K)
noncomputable def resAll : List RV → RsT := List.rec (motive := fun _ => RsT) (fun _ _ K => K []) (fun r _ ih e h K => resOf r e h (rs1 ih e h K))
noncomputable def rv2 (v : AV) (K : AV → Bool) (w : AV) (r : List AV) : Bool := K (.tup (v :: w :: r))
noncomputable def rv1 (K : AV → Bool) (v : AV) (r : List AV) : Bool := lcase r (K v) (rv2 v K)
noncomputable def rv0 (K : AV → Bool) (vs : List AV) : Bool := lcase vs (K (.tup [])) (rv1 K)
noncomputable def resV (l : List RV) (e : Env) (h : Heap) (K : AV → Bool) : Bool := resAll l e h (rv0 K)
abbrev Tab := N (N (N (N (Option AF))))
noncomputable def tget (t : Tab) (f : FK) : Option AF := N.at f.d (N.at f.c (N.at f.b (N.at f.a t)))
noncomputable def ocase : Option AF → (List VK → Co → List RV → Bool) → Bool :=
  Option.rec (motive := fun _ => (List VK → Co → List RV → Bool) → Bool) (fun _ => false) (AF.rec (motive := fun _ => (List VK → Co → List RV → Bool) → Bool) fun p b r K => K p b r)
/-- the slot in which a deferred function finds what it recovers -/
def rcv : VK := ⟨.d7, .d7⟩
noncomputable def exd : Ex → St → (Heap → BK → Bool) → Bool := Ex.rec (motive := fun _ => St → (Heap → BK → Bool) → Bool) (fun S K => K S.h S.nx) (fun _ _ _ => false) (fun S K => K S.h S.nx) (fun _ _ _ => false)
noncomputable def rd4 (K : Heap → BK → Bool) (x : Ex) (S : St) : Bool := ifb (nul S.ds) (exd x S K) false
noncomputable def rd3 (b : Co) (call : CT) (h : Heap) (nx : BK) (K : Heap → BK → Bool) (e : Env) : Bool := evC b (.mk call e [] h nx) (rd4 K)
noncomputable def rd2 (b : Co) (call : CT) (v : AV) (h : Heap) (nx : BK) (K : Heap → BK → Bool) (e : Env) : Bool := vput e rcv v (rd3 b call h nx K)
noncomputable def rd1 (call : CT) (v : AV) (h : Heap) (nx : BK) (K : Heap → BK → Bool) (args : List AV) (p : List VK) (b : Co) (_ : List RV) : Bool := setPar p args env0 (rd2 b call v h nx K)
noncomputable def rd0 (tab : Tab) (call : CT) (f : FK) (v : AV) (h : Heap) (nx : BK) (K : Heap → BK → Bool) (args : List AV) : Bool := ocase (tget tab f) (rd1 call v h nx K args)
noncomputable def rdf (tab : Tab) (call : CT) (v : AV) (h : Heap) (nx : BK) (K : Heap → BK → Bool) (f : FK) (first cap : List AV) : Bool := app first cap (rd0 tab call f v h nx K)
/-- a deferred function run: what it recovers; what comes behind it -/
noncomputable def runD (tab : Tab) (call : CT) (v : AV) (K : Heap → BK → Bool) (d : AV) (h : Heap) (nx : BK) : Bool := asFn d (rdf tab call v h nx K)
abbrev DsT := Tab → CT → (Heap → BK → Bool) → Heap → BK → Bool
noncomputable def runDs : List AV → DsT := List.rec (motive := fun _ => DsT) (fun _ _ K h nx => K h nx) (fun d _ ih tab call K h nx => runD tab call (.k .ifn) (ih tab call K) d h nx)
noncomputable def kvh (K : KT) (h : Heap) (nx : BK) (v : AV) : Bool := K v h nx
noncomputable def rfR (res : List RV) (e : Env) (K : KT) (h : Heap) (nx : BK) : Bool := resV res e h (kvh K h nx)
noncomputable def rfD (tab : Tab) (res : List RV) (S : St) (K : KT) (v : AV) (d : AV) (r : List AV) : Bool := runD tab S.call v (runDs r tab S.call (rfR res S.e K)) d S.h S.nx
noncomputable def rfP (tab : Tab) (res : List RV) (K P : KT) (v : AV) (S : St) : Bool := lcase S.ds (P v S.h S.nx) (rfD tab res S K v)
noncomputable def rfN (tab : Tab) (res : List RV) (K : KT) (S : St) : Bool := runDs S.ds tab S.call (rfR res S.e K) S.h S.nx
noncomputable def exf : Ex → Tab → List RV → KT → KT → St → Bool := Ex.rec (motive := fun _ => Tab → List RV → KT → KT → St → Bool) (fun t r K _ S => rfN t r K S) (fun _ _ _ _ _ _ => false) (fun t r K _ S => rfN t r K S) (fun v t r K P S => rfP t r K P v S)
noncomputable def rf2 (tab : Tab) (res : List RV) (K P : KT) (x : Ex) (S : St) : Bool := exf x tab res K P S
noncomputable def rf1 (tab : Tab) (b : Co) (res : List RV) (call : CT) (h : Heap) (nx : BK) (K P : KT) (e : Env) : Bool := evC b (.mk call e [] h nx) (rf2 tab res K P)
noncomputable def rf0 (tab : Tab) (call : CT) (args : List AV) (h : Heap) (nx : BK) (K P : KT) (p : List VK) (b : Co) (res : List RV) : Bool := setPar p args env0 (rf1 tab b res call h nx K P)
noncomputable def callA (tab dtab : Tab) : Nat → CT := Nat.rec (motive := fun _ => CT) (fun _ _ _ _ _ _ => false) (fun _ ih f args h nx K P => ocase (tget tab f) (rf0 dtab ih args h nx K P))
end Go.Ev
