/- Values with open places, and what code comes to on them: definitions. Conditions: none. -/
import Derived.Test.YtblbgjfkbcdlfaaGreatDoorKF
namespace Iv
open Go

/-- Values whose make is known as far as a function's text tells it. 'fz', 'fa': data that nothing of our own is reached from, of one cell, or of any make. 'pts': a place that is reckoned. -/
inductive SD where
  | un
  | int (k : IntKind) (n : Int)
  | bool (b : Bool)
  | str (s : List UInt8)
  | fz (d : D)
  | fa (d : D)
  | agg (l : List SD)
  | tup (l : List SD)
  | ms (nm off sz len cap : Nat)
  | gs (nm off sz len : Nat)
  | ptr (nm off : Nat)
  | pts (nm off : Nat)
  | ip (cs : List D) (off : Nat)
  | it (nm : Nat)
  | iface (t : Nat) (d : SD)
  | fn (f : Fn) (fs cs : List SD)
  deriving Inhabited

mutual
def SD.cv : SD → D
  | .un => .un
  | .int k n => .int k n
  | .bool b => .bool b
  | .str s => .str s
  | .fz d => d
  | .fa d => d
  | .agg l => .agg (SD.cvs l)
  | .tup l => .tup (SD.cvs l)
  | .ms n o z l c => .ms n o z l c
  | .gs n o z l => .gs n o z l
  | .ptr n o => .ptr n o
  | .pts n o => .ptr n o
  | .ip cs o => .iptr cs o
  | .it n => .it n
  | .iface t d => .iface t (SD.cv d)
  | .fn f a b => .fn f (SD.cvs a) (SD.cvs b)
def SD.cvs : List SD → List D
  | [] => []
  | d :: r => SD.cv d :: SD.cvs r
end

mutual
/-- Nothing of our own is reached, however deep one looks. -/
def D.dp : D → Bool
  | .agg cs => D.dps cs
  | .tup cs => D.dps cs
  | .sl _ _ cs => D.dps cs
  | .iptr cs _ => D.dps cs
  | .ms .. => false
  | .gs .. => false
  | .ptr .. => false
  | .it .. => false
  | .iface _ d => D.dp d
  | .fn _ a b => D.dps a && D.dps b
  | _ => true
def D.dps : List D → Bool
  | [] => true
  | d :: r => D.dp d && D.dps r
end

mutual
def SD.ok : SD → Prop
  | .fz d => d.dp = true ∧ isAg d = false
  | .fa d => d.dp = true
  | .ip cs _ => D.dps cs = true
  | .agg l => SD.oks l
  | .tup l => SD.oks l
  | .iface _ d => SD.ok d
  | .fn _ a b => SD.oks a ∧ SD.oks b
  | _ => True
def SD.oks : List SD → Prop
  | [] => True
  | d :: r => SD.ok d ∧ SD.oks r
end

mutual
def SD.pure : SD → Bool
  | .agg l => SD.pures l
  | .tup l => SD.pures l
  | .ms .. => false
  | .gs .. => false
  | .ptr .. => false
  | .pts .. => false
  | .it .. => false
  | .iface _ d => SD.pure d
  | .fn _ a b => SD.pures a && SD.pures b
  | _ => true
def SD.pures : List SD → Bool
  | [] => true
  | d :: r => SD.pure d && SD.pures r
end

mutual
def SD.kill (nm : Nat) : SD → SD
  | .agg cs => .agg (SD.kills nm cs)
  | .tup cs => .tup (SD.kills nm cs)
  | .ms n o z l c => bif Nat.beq n nm then .un else .ms n o z l c
  | .gs n o z l => bif Nat.beq n nm then .un else .gs n o z l
  | .ptr n o => bif Nat.beq n nm then .un else .ptr n o
  | .pts n o => bif Nat.beq n nm then .un else .pts n o
  | .it n => bif Nat.beq n nm then .un else .it n
  | .iface t d => .iface t (SD.kill nm d)
  | .fn f a b => .fn f (SD.kills nm a) (SD.kills nm b)
  | d => d
def SD.kills (nm : Nat) : List SD → List SD
  | [] => []
  | d :: r => SD.kill nm d :: SD.kills nm r
end

mutual
def SD.hasRef (m : Nat) : SD → Bool
  | .agg cs => SD.hasRefs m cs
  | .tup cs => SD.hasRefs m cs
  | .ms n _ _ _ _ => Nat.beq n m
  | .gs n _ _ _ => Nat.beq n m
  | .ptr n _ => Nat.beq n m
  | .pts n _ => Nat.beq n m
  | .it n => Nat.beq n m
  | .iface _ d => SD.hasRef m d
  | .fn _ a b => SD.hasRefs m a || SD.hasRefs m b
  | _ => false
def SD.hasRefs (m : Nat) : List SD → Bool
  | [] => false
  | d :: r => SD.hasRef m d || SD.hasRefs m r
end

/-- One cell. -/
def SD.one : SD → Bool
  | .un => false
  | .fa _ => false
  | .agg _ => false
  | .tup _ => false
  | _ => true

/-- Blocks: cells each of its own make; cells that are frozen data; a row that grows; a string that is gone through. -/
inductive SB where
  | fix (cs : List SD)
  | fo (cs : List D)
  | gr (cs : List D)
  | it (s : List UInt8) (pos : Nat)
  deriving Inhabited

def SB.cv : SB → Blk
  | .fix cs => .fix (SD.cvs cs)
  | .fo cs => .fix cs
  | .gr cs => .grow cs
  | .it s p => .iter s p

def SB.ok : SB → Prop
  | .fix cs => SD.oks cs
  | .fo cs => D.dps cs = true
  | .gr cs => D.dps cs = true
  | .it _ _ => True

structure SS where
  t : List (Nat × SD)
  s : List (Nat × SB)

def cvT : List (Nat × SD) → Tm
  | [] => []
  | (k, v) :: r => (k, v.cv) :: cvT r

def cvS : List (Nat × SB) → St
  | [] => []
  | (k, v) :: r => (k, v.cv) :: cvS r

def SS.cv (x : SS) : AS := ⟨cvT x.t, cvS x.s⟩

def SS.ok (x : SS) : Prop := (∀ p ∈ x.t, p.2.ok) ∧ (∀ p ∈ x.s, p.2.ok)

def tgetS : List (Nat × SD) → Nat → SD
  | [], _ => .un
  | (k, v) :: r, n => bif Nat.beq n k then v else tgetS r n

/-- At its place. -/
def tsetS : List (Nat × SD) → Nat → SD → List (Nat × SD)
  | [], _, _ => []
  | (k, v) :: r, n, d => bif Nat.beq n k then (k, d) :: r else (k, v) :: tsetS r n d

def sgetS : List (Nat × SB) → Nat → Option SB
  | [], _ => none
  | (k, v) :: r, n => bif Nat.beq n k then some v else sgetS r n

def ssetS : List (Nat × SB) → Nat → SB → List (Nat × SB)
  | [], _, _ => []
  | (k, v) :: r, n, b => bif Nat.beq n k then (k, b) :: r else (k, v) :: ssetS r n b

def sdelS : List (Nat × SB) → Nat → List (Nat × SB)
  | [], _ => []
  | (k, v) :: r, n => bif Nat.beq n k then sdelS r n else (k, v) :: sdelS r n

def shasS (s : List (Nat × SB)) (n : Nat) : Bool := match sgetS s n with | some _ => true | none => false

def SB.kill (nm : Nat) : SB → SB
  | .fix cs => .fix (SD.kills nm cs)
  | b => b

def tkillS (nm : Nat) : List (Nat × SD) → List (Nat × SD)
  | [] => []
  | (k, v) :: r => (k, SD.kill nm v) :: tkillS nm r

def skillS (nm : Nat) : List (Nat × SB) → List (Nat × SB)
  | [] => []
  | (k, b) :: r => (k, SB.kill nm b) :: skillS nm r

def SS.drop (nm : Nat) (x : SS) : SS := bif shasS x.s nm then ⟨tkillS nm x.t, skillS nm (sdelS x.s nm)⟩ else x

def SS.drops : List Nat → SS → SS
  | [], x => x
  | n :: r, x => SS.drops r (x.drop n)

def SS.purge (nm : Nat) (x : SS) : SS := ⟨tkillS nm x.t, skillS nm (sdelS x.s nm)⟩

def SS.purges : List Nat → SS → SS
  | [], x => x
  | n :: r, x => SS.purges r (x.purge n)

def restrictS : List Nat → List (Nat × SD) → List (Nat × SD)
  | [], _ => []
  | n :: r, t => (n, tgetS t n) :: restrictS r t

def SS.put (x : SS) (dst : Option Nat) (d : SD) : SS :=
  match dst with
  | some n => ⟨(n, d) :: x.t, x.s⟩
  | none => x

def SS.set (x : SS) (nm : Nat) (b : SB) : SS := ⟨x.t, ssetS x.s nm b⟩

mutual
def ofD : D → SD
  | .un => .un
  | .int k n => .int k n
  | .bool b => .bool b
  | .str s => .str s
  | .agg cs => .agg (ofDs cs)
  | .tup cs => .tup (ofDs cs)
  | d => .fz d
def ofDs : List D → List SD
  | [] => []
  | d :: r => ofD d :: ofDs r
end

/-- Shapes: what a value, or a state, is known to be made like; the rest are its open places. -/
inductive Sh where
  | any
  | un
  | int (k : IntKind)
  | bool
  | str
  | fz
  | agg (l : List Sh)
  | tup (l : List Sh)
  | ms (nm off sz : Nat)
  | gs (nm off sz : Nat)
  | ptr (nm off : Nat)
  | pts (nm : Nat)
  | ip
  | it (nm : Nat)
  | iface (t : Nat) (s : Sh)
  | fn (f : Nat) (a b : List Sh)
  deriving Inhabited

mutual
def Sh.T : Sh → Type
  | .any => D
  | .un => Unit
  | .int _ => Int
  | .bool => Bool
  | .str => List UInt8
  | .fz => D
  | .agg l => Sh.Ts l
  | .tup l => Sh.Ts l
  | .ms _ _ _ => Nat × Nat
  | .gs _ _ _ => Nat
  | .ptr _ _ => Unit
  | .pts _ => Nat
  | .ip => List D × Nat
  | .it _ => Unit
  | .iface _ s => Sh.T s
  | .fn _ a b => Sh.Ts a × Sh.Ts b
def Sh.Ts : List Sh → Type
  | [] => Unit
  | s :: r => Sh.T s × Sh.Ts r
end

mutual
def Sh.pt : (s : Sh) → s.T → SD
  | .any, d => .fa d
  | .un, _ => .un
  | .int k, n => .int k n
  | .bool, b => .bool b
  | .str, s => .str s
  | .fz, d => .fz d
  | .agg l, v => .agg (Sh.pts' l v)
  | .tup l, v => .tup (Sh.pts' l v)
  | .ms n o z, v => .ms n o z v.1 v.2
  | .gs n o z, v => .gs n o z v
  | .ptr n o, _ => .ptr n o
  | .pts n, v => .pts n v
  | .ip, v => .ip v.1 v.2
  | .it n, _ => .it n
  | .iface t s, v => .iface t (Sh.pt s v)
  | .fn f a b, v => .fn (.func f) (Sh.pts' a v.1) (Sh.pts' b v.2)
def Sh.pts' : (l : List Sh) → Sh.Ts l → List SD
  | [], _ => []
  | s :: r, v => Sh.pt s v.1 :: Sh.pts' r v.2
end

def sameK (a b : IntKind) : Bool :=
  match a, b with
  | .i8, .i8 => true
  | .i16, .i16 => true
  | .i32, .i32 => true
  | .i64, .i64 => true
  | .u8, .u8 => true
  | .u16, .u16 => true
  | .u32, .u32 => true
  | .u64, .u64 => true
  | _, _ => false

def D.asI (k : IntKind) : D → Option Int
  | .int j n => bif sameK k j then some n else none
  | _ => none
def D.asB : D → Option Bool
  | .bool b => some b
  | _ => none
def D.asS : D → Option (List UInt8)
  | .str s => some s
  | _ => none
def D.asAgg : D → Option (List D)
  | .agg cs => some cs
  | _ => none
def D.asTup : D → Option (List D)
  | .tup cs => some cs
  | _ => none

mutual
/-- The open places of data of a shape. -/
def Sh.gd : (s : Sh) → D → Option s.T
  | .any, d => some d
  | .int k, d => d.asI k
  | .bool, d => d.asB
  | .str, d => d.asS
  | .fz, d => bif isAg d then none else some d
  | .agg l, d => match d.asAgg with
    | some cs => Sh.gds l cs
    | none => none
  | .tup l, d => match d.asTup with
    | some cs => Sh.gds l cs
    | none => none
  | .un, _ => none
  | .ms _ _ _, _ => none
  | .gs _ _ _, _ => none
  | .ptr _ _, _ => none
  | .pts _, _ => none
  | .ip, _ => none
  | .it _, _ => none
  | .iface _ _, _ => none
  | .fn _ _ _, _ => none
def Sh.gds : (l : List Sh) → List D → Option (Sh.Ts l)
  | [], ds => match ds with
    | [] => some ()
    | _ => none
  | s :: r, ds => match ds with
    | [] => none
    | d :: ds =>
      match Sh.gd s d with
      | some v => match Sh.gds r ds with
        | some w => some (v, w)
        | none => none
      | none => none
end

def SD.asUn : SD → Option Unit
  | .un => some ()
  | _ => none
def SD.asI (k : IntKind) : SD → Option Int
  | .int j n => bif sameK k j then some n else none
  | _ => none
def SD.asB : SD → Option Bool
  | .bool b => some b
  | _ => none
def SD.asS : SD → Option (List UInt8)
  | .str s => some s
  | _ => none
def SD.asAgg : SD → Option (List SD)
  | .agg cs => some cs
  | _ => none
def SD.asTup : SD → Option (List SD)
  | .tup cs => some cs
  | _ => none
def SD.asMs (n o z : Nat) : SD → Option (Nat × Nat)
  | .ms n' o' z' l c => bif Nat.beq n n' && (Nat.beq o o' && Nat.beq z z') then some (l, c) else none
  | _ => none
def SD.asGs (n o z : Nat) : SD → Option Nat
  | .gs n' o' z' l => bif Nat.beq n n' && (Nat.beq o o' && Nat.beq z z') then some l else none
  | _ => none
def SD.asPtr (n o : Nat) : SD → Option Unit
  | .ptr n' o' => bif Nat.beq n n' && Nat.beq o o' then some () else none
  | _ => none
def SD.asPts (n : Nat) : SD → Option Nat
  | .pts n' o => bif Nat.beq n n' then some o else none
  | _ => none
def SD.asIp : SD → Option (List D × Nat)
  | .ip cs o => some (cs, o)
  | _ => none
def SD.asIt (n : Nat) : SD → Option Unit
  | .it n' => bif Nat.beq n n' then some () else none
  | _ => none
def SD.asIf (t : Nat) : SD → Option SD
  | .iface t' d => bif Nat.beq t t' then some d else none
  | _ => none
def SD.asFn (f : Nat) : SD → Option (List SD × List SD)
  | .fn (.func g) a b => bif Nat.beq f g then some (a, b) else none
  | _ => none

mutual
/-- The same of a value. -/
def Sh.gs' : (s : Sh) → SD → Option s.T
  | .any, d => bif d.pure then some d.cv else none
  | .un, d => d.asUn
  | .int k, d => d.asI k
  | .bool, d => d.asB
  | .str, d => d.asS
  | .fz, d => bif d.pure && d.one then some d.cv else none
  | .agg l, d => match d.asAgg with
    | some cs => Sh.gss l cs
    | none => none
  | .tup l, d => match d.asTup with
    | some cs => Sh.gss l cs
    | none => none
  | .ms n o z, d => d.asMs n o z
  | .gs n o z, d => d.asGs n o z
  | .ptr n o, d => d.asPtr n o
  | .pts n, d => d.asPts n
  | .ip, d => d.asIp
  | .it n, d => d.asIt n
  | .iface t s, d => match d.asIf t with
    | some d => Sh.gs' s d
    | none => none
  | .fn f a b, d => match d.asFn f with
    | some p =>
      match Sh.gss a p.1 with
      | some v => match Sh.gss b p.2 with
        | some w => some (v, w)
        | none => none
      | none => none
    | none => none
def Sh.gss : (l : List Sh) → List SD → Option (Sh.Ts l)
  | [], ds => match ds with
    | [] => some ()
    | _ => none
  | s :: r, ds => match ds with
    | [] => none
    | d :: ds =>
      match Sh.gs' s d with
      | some v => match Sh.gss r ds with
        | some w => some (v, w)
        | none => none
      | none => none
end

mutual
def SD.sh : SD → Sh
  | .un => .un
  | .int k _ => .int k
  | .bool _ => .bool
  | .str _ => .str
  | .fz _ => .fz
  | .fa _ => .any
  | .agg l => .agg (SD.shs l)
  | .tup l => .tup (SD.shs l)
  | .ms n o z _ _ => .ms n o z
  | .gs n o z _ => .gs n o z
  | .ptr n o => .ptr n o
  | .pts n _ => .pts n
  | .ip _ _ => .ip
  | .it n => .it n
  | .iface t d => .iface t (SD.sh d)
  | .fn (.func f) a b => .fn f (SD.shs a) (SD.shs b)
  | .fn _ _ _ => .un
def SD.shs : List SD → List Sh
  | [] => []
  | d :: r => SD.sh d :: SD.shs r
end

mutual
/-- Data of this shape holds no place in memory. -/
def Sh.flat : Sh → Bool
  | .int _ => true
  | .bool => true
  | .str => true
  | .agg l => Sh.flats l
  | .tup l => Sh.flats l
  | _ => false
def Sh.flats : List Sh → Bool
  | [] => true
  | s :: r => s.flat && Sh.flats r
end

/-- Shapes of blocks. -/
inductive BSh where
  | fix (l : List Sh)
  | fo
  | gr
  | it
  deriving Inhabited

def BSh.T : BSh → Type
  | .fix l => Sh.Ts l
  | .fo => List D
  | .gr => List D
  | .it => List UInt8 × Nat

def BSh.pt : (b : BSh) → b.T → SB
  | .fix l, v => .fix (Sh.pts' l v)
  | .fo, cs => .fo cs
  | .gr, cs => .gr cs
  | .it, v => .it v.1 v.2

def SB.asFo : SB → Option (List D)
  | .fix cs => bif SD.pures cs then some (SD.cvs cs) else none
  | .fo cs => some cs
  | _ => none
def SB.asGr : SB → Option (List D)
  | .gr cs => some cs
  | _ => none
def SB.asIt : SB → Option (List UInt8 × Nat)
  | .it s p => some (s, p)
  | _ => none
def Sh.gbs (l : List Sh) (b : SB) : Option (Sh.Ts l) :=
  match b with
  | .fix cs => Sh.gss l cs
  | .fo cs => Sh.gds l cs
  | _ => none

def BSh.gb : (b : BSh) → SB → Option b.T
  | .fix l, b => Sh.gbs l b
  | .fo, b => b.asFo
  | .gr, b => b.asGr
  | .it, b => b.asIt

def SB.bsh : SB → BSh
  | .fix cs => bif SD.pures cs && !(Nat.ble cs.length 6) then .fo else .fix (SD.shs cs)
  | .fo _ => .fo
  | .gr _ => .gr
  | .it _ _ => .it

abbrev TSh := List (Nat × Sh)
abbrev SSh := List (Nat × BSh)

def TSh.T : TSh → Type
  | [] => Unit
  | (_, s) :: r => s.T × TSh.T r
def SSh.T : SSh → Type
  | [] => Unit
  | (_, s) :: r => s.T × SSh.T r
def TSh.pt : (l : TSh) → TSh.T l → List (Nat × SD)
  | [], _ => []
  | (k, s) :: r, v => (k, s.pt v.1) :: TSh.pt r v.2
def SSh.pt : (l : SSh) → SSh.T l → List (Nat × SB)
  | [], _ => []
  | (k, s) :: r, v => (k, s.pt v.1) :: SSh.pt r v.2
def TSh.get : (l : TSh) → List (Nat × SD) → Option (TSh.T l)
  | [], _ => some ()
  | (k, s) :: r, t =>
    match s.gs' (tgetS t k) with
    | some v => match TSh.get r t with
      | some w => some (v, w)
      | none => none
    | none => none
def tshOf : List (Nat × SD) → TSh
  | [] => []
  | (k, d) :: r => (k, d.sh) :: tshOf r
def sshOf : List (Nat × SB) → SSh
  | [] => []
  | (k, b) :: r => (k, b.bsh) :: sshOf r

abbrev XSh := TSh × SSh
def XSh.T (s : XSh) : Type := TSh.T s.1 × SSh.T s.2
def XSh.pt (s : XSh) (v : s.T) : SS := ⟨TSh.pt s.1 v.1, SSh.pt s.2 v.2⟩
mutual
/-- Which blocks are reached from values. -/
def SD.nms : SD → List Nat
  | .agg l => SD.nmss l
  | .tup l => SD.nmss l
  | .ms n _ _ _ _ => [n]
  | .gs n _ _ _ => [n]
  | .ptr n _ => [n]
  | .pts n _ => [n]
  | .it n => [n]
  | .iface _ d => SD.nms d
  | .fn _ a b => SD.nmss a ++ SD.nmss b
  | _ => []
def SD.nmss : List SD → List Nat
  | [] => []
  | d :: r => SD.nms d ++ SD.nmss r
end

def memN (n : Nat) (l : List Nat) : Bool := l.any (Nat.beq n)

def reachN (s : List (Nat × SB)) : Nat → List Nat → List Nat → List Nat
  | 0, _, acc => acc
  | _, [], acc => acc
  | k + 1, n :: r, acc =>
    bif memN n acc then reachN s k r acc else
    match sgetS s n with
    | some (.fix cs) => reachN s k (SD.nmss cs ++ r) (n :: acc)
    | _ => reachN s k r (n :: acc)

def tnms : List (Nat × SD) → List Nat
  | [] => []
  | (_, d) :: r => SD.nms d ++ tnms r

def skeys : List (Nat × SB) → List Nat
  | [] => []
  | (k, _) :: r => k :: skeys r

def dropButS (ls : List Nat) : List Nat → SS → SS
  | [], x => x
  | n :: r, x => dropButS ls r (bif memN n ls then x else x.drop n)

def adoptS (x : SS) : List (Nat × Nat × Nat) → SS
  | [] => x
  | (t, nm, sz) :: r =>
    match tgetS x.t t with
    | .fz .nils => adoptS (bif shasS x.s nm then x else ⟨(t, .gs nm 0 sz 0) :: x.t, (nm, .gr []) :: x.s⟩) r
    | _ => adoptS x r

/-- Ahead of a loop: what it goes on with. -/
def normS (lt : List Nat) (ad : List (Nat × Nat × Nat)) (x : SS) : SS :=
  let x := adoptS x ad
  let x : SS := ⟨restrictS lt x.t, x.s⟩
  dropButS (reachN x.s 1000 (tnms x.t) []) (skeys x.s) x

/-- Behind a round. -/
def normE (sh : XSh) (lt : List Nat) (ad : List (Nat × Nat × Nat)) (x : SS) : SS :=
  let x := adoptS x ad
  let x : SS := ⟨restrictS lt x.t, x.s⟩
  dropButS (sh.2.map (·.1)) (skeys x.s) x

def shOfX (x : SS) : XSh := (tshOf x.t, sshOf x.s)

/-- At a joint: the shapes of what is live, off the state ahead of it and off the types. -/
def cutT (lt : List Nat) (tys : List (Nat × Sh)) (t : List (Nat × SD)) : TSh :=
  lt.map fun n => (n, match tgetS t n with
    | .un => match tys.find? (fun p => Nat.beq p.1 n) with
      | some p => p.2
      | none => .any
    | d => d.sh)

def bd {α ρ : Type} (o : Option α) (k : α → Option ρ) : Option ρ :=
  match o with
  | some a => k a
  | none => none

/-- The open places of a state. -/
def SSh.getK {ρ : Type} : (l : SSh) → List (Nat × SB) → (SSh.T l → Option ρ) → Option ρ
  | [], _, K => K ()
  | (k, s) :: r, x, K =>
    match sgetS x k with
    | some b => bd (s.gb b) fun v => SSh.getK r x fun w => K (v, w)
    | none => none
def XSh.getK {ρ : Type} (s : XSh) (x : SS) (K : s.T → Option ρ) : Option ρ :=
  bd (TSh.get s.1 x.t) fun v => SSh.getK s.2 x.s fun w => K (v, w)

def bj {α ρ : Type} (o : Option (α ⊕ ρ)) (k : α → Option ρ) : Option ρ :=
  match o with
  | some (.inl a) => k a
  | some (.inr r) => some r
  | none => none

def rt {α ρ : Type} (o : Option ρ) : Option (α ⊕ ρ) :=
  match o with
  | some r => some (.inr r)
  | none => none

def iterN {α ρ : Type} (f : α → Option (α ⊕ ρ)) : Nat → α → Option ρ
  | 0, _ => none
  | n + 1, v =>
    match f v with
    | some (.inl w) => iterN f n w
    | some (.inr r) => some r
    | none => none

open Classical in
noncomputable def loopD {α ρ : Type} (f : α → Option (α ⊕ ρ)) (v : α) : Option ρ :=
  if h : ∃ n, (iterN f n v).isSome = true then iterN f h.choose v else none

/-- How loops are run: to their end, if they have one; or for so many rounds at most. -/
structure Lp where
  run : {α ρ : Type} → (α → Option (α ⊕ ρ)) → α → Option ρ

noncomputable def lpD : Lp := ⟨loopD⟩
def lpN (n : Nat) : Lp := ⟨fun f v => iterN f n v⟩

/- What is asked of data. -/

/-- 'setAt', in one go. -/
def setQ {α : Type} : List α → Nat → List α → List α
  | [], _, _ => []
  | c :: cs, 0, vs => match vs with
    | [] => c :: cs
    | v :: vs => v :: setQ cs 0 vs
  | c :: cs, n + 1, vs => c :: setQ cs n vs

def inR (off n len : Nat) : Option Unit := bif Nat.ble (off + n) len then some () else none

/-- A cell, or some, at a pointer that came in. -/
def ldF (sz : Option Nat) : D → Option D
  | .iptr cs off => takeAt cs off sz
  | _ => none

/-- Is it a pointer, and not nil? Its cells, and its place. -/
def ptF : D → Option (List D × Nat)
  | .iptr cs off => some (cs, off)
  | _ => none

def elF (sz : Nat) (d i : D) : Option (List D × Nat) :=
  match d with
  | .sl _ len cs => match idxD len i with
    | some k => some (cs, k * sz)
    | none => none
  | _ => none

def fldF (off : Nat) (sz : Option Nat) : D → Option D
  | .agg cs => takeAt cs off sz
  | _ => none

def extF (i : Nat) : D → Option D
  | .tup cs => cs[i]?
  | _ => none

def ixF (n sz : Nat) (ag : Bool) (d i : D) : Option D :=
  match d with
  | .agg cs => match idxD n i with
    | some k => takeAt cs (k * sz) (bif ag then some sz else none)
    | none => none
  | _ => none

def ixStr (s : List UInt8) (i : D) : Option Int :=
  match idxD s.length i with
  | some k => match s[k]? with
    | some b => some b.toNat
    | none => none
  | none => none

def cellsF (n : Nat) (d : D) : Option (List D) :=
  match d.cells? with
  | some cs => bif Nat.beq cs.length n && !(cs.any isAg) then some cs else none
  | none => none

def newF (d : D) : Option (List D) := d.cells?

def slF (sz : Nat) : D → Option (List D × Nat)
  | .nils => some ([], 0)
  | .str b => bif Nat.beq sz 1 then some (bytesOf b, b.length) else none
  | .sl _ len cs => bif Nat.ble (len * sz) cs.length then some (cs.take (len * sz), len) else none
  | _ => none

def frSl (ex : Bool) (off sz len : Nat) (cs : List D) : Option D :=
  bif Nat.ble (off + len * sz) cs.length then some (.sl ex len ((cs.drop off).take (len * sz))) else none

/-- What is appended to: a slice that came in. -/
def apF (d : D) (sz n bytes : Nat) : Option (List D × Nat) :=
  match d with
  | .nils => bif room n bytes then some ([], 0) else none
  | .sl ex len cs => bif ex && room (len + n) bytes && Nat.ble (len * sz) cs.length then some (cs.take (len * sz), len) else none
  | _ => none

def isSl : D → Option Unit
  | .nils => some ()
  | .sl .. => some ()
  | _ => none

def apG (plain : Bool) (a b n bytes : Nat) : Option Unit := bif Nat.beq a b && room n bytes && plain then some () else none

def apM (n bytes off a len : Nat) : Option Unit := bif room n bytes && Nat.ble (off + a) len then some () else none

def slVF (sz : Nat) (d : D) (l h m : Option D) : Option D :=
  match d with
  | .nils => do
    let m ← bndO 0 0 m
    let h ← bndO m 0 h
    let _ ← bndO h 0 l
    some .nils
  | .sl ex len cs => do
    let m' ← bndO len len m
    let h' ← bndO m' len h
    let l' ← bndO h' 0 l
    bif Nat.ble (h' * sz) cs.length then
      some (.sl ((m.isSome && Nat.beq m' h') || (m.isNone && ex && Nat.beq h' len)) (h' - l') ((cs.drop (l' * sz)).take ((h' - l') * sz)))
    else none
  | _ => none

/-- Bounds: low, high, most. -/
def bnd3 (top len : Nat) (l h m : Option D) : Option (Nat × Nat × Nat) := do
  let m ← bndO top top m
  let h ← bndO m len h
  let l ← bndO h 0 l
  some (l, h, m)

def slStr (s : List UInt8) (l h : Option D) : Option (List UInt8) := do
  let h ← bndO s.length s.length h
  let l ← bndO h 0 l
  some ((s.take h).drop l)

def mkN (bytes : Nat) (l c : Int) : Option (Nat × Nat) :=
  if 0 ≤ l ∧ l ≤ c ∧ bytes * c ≤ 1099511627776 ∧ c ≤ 4294967296 then some (l.toNat, c.toNat) else none

def byteS (cs : List D) : Option (List UInt8) := cs.mapM byteOfD

def quoD (k : IntKind) (x y : Int) : Option Int := if y = 0 then none else some (wrapD k (x.tdiv y))
def remD (x y : Int) : Option Int := if y = 0 then none else some (x.tmod y)
def shlD (k : IntKind) (x y : Int) : Option Int := if y < 0 then none else some (wrapD k (x * 2 ^ (min y.toNat k.bits)))
def shrD (k : IntKind) (x y : Int) : Option Int := if y < 0 then none else some (x.fdiv (2 ^ (min y.toNat k.bits)))

def andZ (k : IntKind) (x y : Int) : Int := k.wrap (BitVec.ofInt k.bits x &&& BitVec.ofInt k.bits y).toNat
def orZ (k : IntKind) (x y : Int) : Int := k.wrap (BitVec.ofInt k.bits x ||| BitVec.ofInt k.bits y).toNat
def xorZ (k : IntKind) (x y : Int) : Int := k.wrap (BitVec.ofInt k.bits x ^^^ BitVec.ofInt k.bits y).toNat
def andNotZ (k : IntKind) (x y : Int) : Int := k.wrap (BitVec.ofInt k.bits x &&& ~~~(BitVec.ofInt k.bits y)).toNat

def ltZ (x y : Int) : Bool :=
  match x, y with
  | .ofNat a, .ofNat b => Nat.blt a b
  | .ofNat _, .negSucc _ => false
  | .negSucc _, .ofNat _ => true
  | .negSucc a, .negSucc b => Nat.blt b a
def leZ (x y : Int) : Bool :=
  match x, y with
  | .ofNat a, .ofNat b => Nat.ble a b
  | .ofNat _, .negSucc _ => false
  | .negSucc _, .ofNat _ => true
  | .negSucc a, .negSucc b => Nat.ble b a
def eqZ (x y : Int) : Bool :=
  match x, y with
  | .ofNat a, .ofNat b => Nat.beq a b
  | .negSucc a, .negSucc b => Nat.beq a b
  | _, _ => false

theorem ltZ_eq (x y : Int) : ltZ x y = decide (x < y) := by
  cases x <;> cases y <;> simp only [ltZ, Int.ofNat_eq_natCast] <;> rw [Bool.eq_iff_iff] <;> simp only [decide_eq_true_eq, Nat.blt_eq, Bool.false_eq_true, false_iff, true_iff] <;> omega
theorem leZ_eq (x y : Int) : leZ x y = decide (x ≤ y) := by
  cases x <;> cases y <;> simp only [leZ, Int.ofNat_eq_natCast] <;> rw [Bool.eq_iff_iff] <;> simp only [decide_eq_true_eq, Nat.ble_eq, Bool.false_eq_true, false_iff, true_iff] <;> omega
theorem eqZ_eq (x y : Int) : eqZ x y = (x == y) := by
  cases x <;> cases y <;> simp only [eqZ, Int.ofNat_eq_natCast] <;> rw [Bool.eq_iff_iff] <;> simp only [beq_iff_eq, Nat.beq_eq, Bool.false_eq_true, false_iff] <;> omega

def eqB (x y : Bool) : Bool := x == y
def eqS (x y : List UInt8) : Bool := x == y

def catS (x y : List UInt8) : Option (List UInt8) := bif Nat.ble (x.length + y.length) 9223372036854775807 then some (x ++ y) else none

def fnF : D → Option (Nat × List D × List D)
  | .fn (.func f) a b => some (f, a, b)
  | _ => none

def encZ (n : Int) : List UInt8 := (Utf8.encode n).data.toList
/- A rune, and its width. (The look at the bytes keeps Lean from unfolding what is not known.) -/
def decR (s : List UInt8) (p : Nat) : Int :=
  match s.drop p with
  | [] => (decodeD s p).1
  | _ :: _ => (decodeD s p).1
def decW (s : List UInt8) (p : Nat) : Nat :=
  match s.drop p with
  | [] => (decodeD s p).2
  | _ :: _ => (decodeD s p).2
theorem decR_eq (s : List UInt8) (p : Nat) : decR s p = (decodeD s p).1 := by unfold decR; split <;> rfl
theorem decW_eq (s : List UInt8) (p : Nat) : decW s p = (decodeD s p).2 := by unfold decW; split <;> rfl

end Iv
/- What code comes to on values with open places: operations, code, functions. Conditions: none. -/
namespace Iv
open Go

def gcells (G : List (Nat × List D)) (n : Nat) : SD := match G.find? (fun p => Nat.beq p.1 n) with | some p => .ip p.2 0 | none => .un

def Arg.es (G : List (Nat × List D)) (t : List (Nat × SD)) : Arg → SD
  | .t n => tgetS t n
  | .c d => ofD d
  | .g n => gcells G n
  | .f n => .fn (.func n) [] []

def Arg.isC : Arg → Bool
  | .c _ => true
  | _ => false

def Arg.cok : Arg → Bool
  | .c d => d.dp
  | _ => true

def Arg.coks : List Arg → Bool
  | [] => true
  | a :: r => a.cok && Arg.coks r

def optCok : Option Arg → Bool
  | some a => a.cok
  | none => true

def partsCok : List (Nat × Nat × Arg) → Bool
  | [] => true
  | p :: r => p.2.2.cok && partsCok r

/-- The constants of an operation are data. -/
def AOp.cok : AOp → Bool
  | .mv x => x.cok
  | .pick c a b => c.cok && (a.cok && b.cok)
  | .new _ x => x.cok
  | .ld _ x => x.cok
  | .st _ x v => x.cok && v.cok
  | .fa _ x => x.cok
  | .iaA _ _ x i => x.cok && i.cok
  | .iaS _ x i => x.cok && i.cok
  | .ixA _ _ _ x i => x.cok && i.cok
  | .ixS x i => x.cok && i.cok
  | .fld _ _ x => x.cok
  | .ext _ x => x.cok
  | .bin _ x y => x.cok && y.cok
  | .cmp _ _ x y => x.cok && y.cok
  | .un _ x => x.cok
  | .bld cs l => D.dps cs && partsCok l
  | .bsl _ _ _ cs l => D.dps cs && partsCok l
  | .mks _ _ _ z l c => D.dps z && (l.cok && c.cok)
  | .slS x l h => x.cok && (optCok l && optCok h)
  | .slV _ x l h m => x.cok && (optCok l && (optCok h && optCok m))
  | .slA _ _ x l h m => x.cok && (optCok l && (optCok h && optCok m))
  | .len _ x => x.cok
  | .cap x => x.cok
  | .app _ _ _ x y => x.cok && y.cok
  | .copy _ x y => x.cok && y.cok
  | .cvI _ x => x.cok
  | .cvN x => x.cok
  | .cvB _ x => x.cok
  | .cvS x => x.cok
  | .mkif _ x => x.cok
  | .mkfn _ a b => Arg.coks a && Arg.coks b
  | .nilc x => x.cok
  | .rng _ x => x.cok
  | .next x => x.cok
  | .mm _ x y => x.cok && y.cok
  | .call _ _ l => Arg.coks l
  | .callv _ x l => x.cok && Arg.coks l

section
variable {ρ : Type}

/-- Short words for what comes often: an element; cells; what a call comes to. -/
def ixK (sh : Sh) (sz : Nat) (d i : D) (o : Option Nat) (K : sh.T → Option ρ) : Option ρ :=
  bd (elF sz d i) fun p => bd (takeAt p.1 p.2 o) fun d => bd (sh.gd d) K
def tkK (sh : Sh) (cs : List D) (off : Nat) (o : Option Nat) (K : sh.T → Option ρ) : Option ρ :=
  bd (takeAt cs off o) fun d => bd (sh.gd d) K
def clK (sh : Sh) (r : Option D) (K : sh.T → Option ρ) : Option ρ := bd r fun d => bd (sh.gd d) K

/-- Data of a known type: its open places. -/
def castK (sh : Sh) (d : SD) (K : SD → Option ρ) : Option ρ :=
  match d with
  | .fa d => bd (sh.gd d) fun v => K (sh.pt v)
  | d => K d

def SS.add (x : SS) (nm : Nat) (b : SB) (K : SS → Option ρ) : Option ρ := bif shasS x.s nm then none else K ⟨x.t, (nm, b) :: x.s⟩

def takeS (cs : List SD) (off : Nat) : Option Nat → Option SD
  | none => cs[off]?
  | some n => bif Nat.ble (off + n) cs.length then some (.agg ((cs.drop off).take n)) else none

def SD.ones : List SD → Bool
  | [] => true
  | d :: r => d.one && SD.ones r

def ldK (sz : Option Nat) (p : SD) (x : SS) (K : SD → Option ρ) : Option ρ :=
  match p with
  | .ptr nm off => match sgetS x.s nm with
    | some (.fix cs) => bd (takeS cs off sz) K
    | some (.fo cs) => bd (takeAt cs off sz) fun d => K (.fa d)
    | some (.gr cs) => bd (takeAt cs off sz) fun d => K (.fa d)
    | _ => none
  | .pts nm off => match sgetS x.s nm with
    | some (.fix cs) => bif SD.pures cs then bd (takeAt (SD.cvs cs) off sz) fun d => K (.fa d) else none
    | some (.fo cs) => bd (takeAt cs off sz) fun d => K (.fa d)
    | some (.gr cs) => bd (takeAt cs off sz) fun d => K (.fa d)
    | _ => none
  | .ip cs off => bd (takeAt cs off sz) fun d => K (.fa d)
  | .fz d => bd (ldF sz d) fun d => K (.fa d)
  | _ => none

/-- The cells of a value that is put into memory: known ones, or data. -/
def cellsK (n : Nat) (v : SD) (K1 : List SD → Option ρ) (K2 : List D → Option ρ) : Option ρ :=
  match v with
  | .un => none
  | .tup _ => none
  | .agg cs => bif Nat.beq cs.length n && SD.ones cs then K1 cs else none
  | .fa d => bd (cellsF n d) K2
  | d => bif Nat.beq n 1 then K1 [d] else none

/-- Put into a block. -/
def stBK (sure : Bool) (b : SB) (off n : Nat) (vs : List SD) (K : SB → Option ρ) : Option ρ :=
  match b with
  | .fix cs =>
    bif sure then bif Nat.ble (off + n) cs.length then K (.fix (setQ cs off vs)) else none
    else bif SD.pures cs && SD.pures vs then bd (inR off n cs.length) fun _ => K (.fo (setQ (SD.cvs cs) off (SD.cvs vs))) else none
  | .fo cs => bif SD.pures vs then bd (inR off n cs.length) fun _ => K (.fo (setQ cs off (SD.cvs vs))) else none
  | .gr cs => bif SD.pures vs then bd (inR off n cs.length) fun _ => K (.gr (setQ cs off (SD.cvs vs))) else none
  | _ => none

def stDK (b : SB) (off n : Nat) (vs : List D) (K : SB → Option ρ) : Option ρ :=
  match b with
  | .fix cs => bif SD.pures cs then bd (inR off n cs.length) fun _ => K (.fo (setQ (SD.cvs cs) off vs)) else none
  | .fo cs => bd (inR off n cs.length) fun _ => K (.fo (setQ cs off vs))
  | .gr cs => bd (inR off n cs.length) fun _ => K (.gr (setQ cs off vs))
  | _ => none

def stK (n : Nat) (p v : SD) (x : SS) (K : SS → Option ρ) : Option ρ :=
  match p with
  | .ptr nm off => match sgetS x.s nm with
    | some b => cellsK n v (fun vs => stBK true b off n vs fun b => K (x.set nm b)) fun vs => stDK b off n vs fun b => K (x.set nm b)
    | none => none
  | .pts nm off => match sgetS x.s nm with
    | some b => cellsK n v (fun vs => stBK false b off n vs fun b => K (x.set nm b)) fun vs => stDK b off n vs fun b => K (x.set nm b)
    | none => none
  | _ => none

def newK (nm : Nat) (v : SD) (x : SS) (K : SD → SS → Option ρ) : Option ρ :=
  match v with
  | .un => none
  | .tup _ => none
  | .agg cs => x.add nm (.fix cs) fun x => K (.ptr nm 0) x
  | .fa d => bd (newF d) fun cs => x.add nm (.fo cs) fun x => K (.ptr nm 0) x
  | d => x.add nm (.fix [d]) fun x => K (.ptr nm 0) x

def iaAK (n sz : Nat) (p i : SD) (const : Bool) (K : SD → Option ρ) : Option ρ :=
  match p with
  | .ptr nm off => bd (idxD n i.cv) fun k => bif const then K (.ptr nm (off + k * sz)) else K (.pts nm (off + k * sz))
  | .pts nm off => bd (idxD n i.cv) fun k => K (.pts nm (off + k * sz))
  | .ip cs off => bd (idxD n i.cv) fun k => K (.ip cs (off + k * sz))
  | .fz d => bd (ptF d) fun p => bd (idxD n i.cv) fun k => K (.ip p.1 (p.2 + k * sz))
  | _ => none

def iaSK (sz : Nat) (p i : SD) (const : Bool) (K : SD → Option ρ) : Option ρ :=
  match p with
  | .fz d => bd (elF sz d i.cv) fun p => K (.ip p.1 p.2)
  | .ms nm off z len _ => bd (idxD len i.cv) fun k => bif Nat.beq z sz then (bif const then K (.ptr nm (off + k * sz)) else K (.pts nm (off + k * sz))) else none
  | .gs nm off z len => bd (idxD len i.cv) fun k => bif Nat.beq z sz then (bif const then K (.ptr nm (off + k * sz)) else K (.pts nm (off + k * sz))) else none
  | _ => none

def ixAK (n sz : Nat) (ag : Bool) (p i : SD) (const : Bool) (K : SD → Option ρ) : Option ρ :=
  match p with
  | .agg cs => bif const then bd (idxD n i.cv) fun k => bd (takeS cs (k * sz) (bif ag then some sz else none)) K
    else bif SD.pures cs then bd (idxD n i.cv) fun k => bd (takeAt (SD.cvs cs) (k * sz) (bif ag then some sz else none)) fun d => K (.fa d) else none
  | .fa d => bd (ixF n sz ag d i.cv) fun d => K (.fa d)
  | _ => none

def binK (op : BinOp) (a b : SD) (K : SD → Option ρ) : Option ρ :=
  match a, b with
  | .int k x, .int j y =>
    match op with
    | .shl => bd (shlD k x y) fun n => K (.int k n)
    | .shr => bd (shrD k x y) fun n => K (.int k n)
    | op => bif sameK k j then
        match op with
        | .add => K (.int k (wrapD k (x + y)))
        | .sub => K (.int k (wrapD k (x - y)))
        | .mul => K (.int k (wrapD k (x * y)))
        | .quo => bd (quoD k x y) fun n => K (.int k n)
        | .rem => bd (remD x y) fun n => K (.int k n)
        | .eql => K (.bool (eqZ x y))
        | .neq => K (.bool (!(eqZ x y)))
        | .lss => K (.bool (ltZ x y))
        | .leq => K (.bool (leZ x y))
        | .gtr => K (.bool (ltZ y x))
        | .geq => K (.bool (leZ y x))
        | .and => K (.int k (andZ k x y))
        | .or => K (.int k (orZ k x y))
        | .xor => K (.int k (xorZ k x y))
        | .andNot => K (.int k (andNotZ k x y))
        | _ => none
      else none
  | .str x, .str y =>
    match op with
    | .add => bd (catS x y) fun s => K (.str s)
    | .eql => K (.bool (eqS x y))
    | .neq => K (.bool (!(eqS x y)))
    | .lss => K (.bool (Op.bytesLess x y))
    | .leq => K (.bool (Op.bytesLess x y || eqS x y))
    | .gtr => K (.bool (!(Op.bytesLess x y || eqS x y)))
    | .geq => K (.bool (!(Op.bytesLess x y)))
    | _ => none
  | _, _ => none

mutual
def eqTS : ET → SD → SD → Option Bool
  | .int, .int k a, .int j b => bif sameK k j then some (eqZ a b) else none
  | .bool, .bool a, .bool b => some (eqB a b)
  | .str, .str a, .str b => some (eqS a b)
  | .parts l, .agg xs, .agg ys => eqTSs l xs ys
  | _, _, _ => none
def eqTSs : List (Nat × Option Nat × ET) → List SD → List SD → Option Bool
  | [], _, _ => some true
  | (off, sz, t) :: r, xs, ys =>
    match takeS xs off sz, takeS ys off sz with
    | some a, some b => match eqTS t a b with
      | some e => match eqTSs r xs ys with
        | some f => some (e && f)
        | none => none
      | none => none
    | _, _ => none
end

def cmpK' (neg : Bool) (k : EK) (a b : SD) (K : SD → Option ρ) : Option ρ :=
  match k with
  | .ty t => match eqTS t a b with
    | some r => K (.bool (bif neg then !r else r))
    | none => none
  | k => bd (cmpD k a.cv b.cv) fun r => K (.bool (bif neg then !r else r))

def unK (op : UnOp) (a : SD) (K : SD → Option ρ) : Option ρ :=
  match op, a with
  | .neg, .int k n => K (.int k (wrapD k (0 - n)))
  | .xor, .int k n => K (.int k (xorZ k (if k.signed then -1 else k.max) n))
  | .not, .bool b => K (.bool (!b))
  | _, _ => none

/-- A literal's parts. -/
def placeS (cells : List SD) : List (Nat × Nat × SD) → Option (List SD)
  | [] => some cells
  | (off, n, d) :: r =>
    match d with
    | .un => none
    | .fa _ => none
    | .tup _ => none
    | .agg cs => bif Nat.beq cs.length n && Nat.ble (off + n) cells.length then placeS (setAt cells off cs) r else none
    | d => bif Nat.beq n 1 && Nat.ble (off + 1) cells.length then placeS (setAt cells off [d]) r else none

def partsS (G : List (Nat × List D)) (t : List (Nat × SD)) : List (Nat × Nat × Arg) → List (Nat × Nat × SD)
  | [] => []
  | (o, n, a) :: r => (o, n, a.es G t) :: partsS G t r

def optS (G : List (Nat × List D)) (t : List (Nat × SD)) : Option Arg → Option D
  | some a => some (a.es G t).cv
  | none => none

/-- The elements that are appended or copied: data, how many, and whether each is one cell. -/
def rowsK (sz : Nat) (b : SD) (x : SS) (K : List D → Nat → Bool → Option ρ) : Option ρ :=
  match b with
  | .str s => bif Nat.beq sz 1 then K (bytesOf s) s.length true else none
  | .fz d => bd (slF sz d) fun p => K p.1 p.2 (!(p.1.any isAg))
  | .ms nm off z len _ => bif Nat.beq z sz then
      match sgetS x.s nm with
      | some (.fix cs) => bif SD.pures cs then bd (inR off (len * sz) cs.length) fun _ => K (SD.cvs ((cs.drop off).take (len * sz))) len (SD.ones ((cs.drop off).take (len * sz))) else none
      | some (.fo cs) => bd (inR off (len * sz) cs.length) fun _ => K ((cs.drop off).take (len * sz)) len (!(((cs.drop off).take (len * sz)).any isAg))
      | _ => none
    else none
  | .gs nm off z len => bif Nat.beq z sz then
      match sgetS x.s nm with
      | some (.gr cs) => bd (inR off (len * sz) cs.length) fun _ => K ((cs.drop off).take (len * sz)) len (!(((cs.drop off).take (len * sz)).any isAg))
      | _ => none
    else none
  | _ => none

def appK (nm sz bytes : Nat) (a b : SD) (x : SS) (K : SD → SS → Option ρ) : Option ρ :=
  rowsK sz b x fun ys n plain =>
    match a with
    | .fz d => bif Nat.beq n 0 then bd (isSl d) fun _ => K (.fz d) x
      else bd (apF d sz n bytes) fun p => x.add nm (.gr (p.1 ++ ys)) fun x => K (.gs nm 0 sz (p.2 + n)) x
    | .ms m off z len c => bif Nat.beq z sz then
        match sgetS x.s m with
        | some (.fix cs) =>
          bif SD.pures cs then
            bif Nat.ble (len + n) c then bd (apG plain 0 0 0 0) fun _ => bd (inR (off + len * sz) ys.length cs.length) fun _ => K (.ms m off z (len + n) c) (x.set m (.fo (setQ (SD.cvs cs) (off + len * sz) ys)))
            else bd (apM (len + n) bytes off (len * sz) cs.length) fun _ => x.add nm (.gr (((SD.cvs cs).drop off).take (len * sz) ++ ys)) fun x => K (.gs nm 0 sz (len + n)) x
          else none
        | some (.fo cs) =>
          bif Nat.ble (len + n) c then bd (apG plain 0 0 0 0) fun _ => bd (inR (off + len * sz) ys.length cs.length) fun _ => K (.ms m off z (len + n) c) (x.set m (.fo (setQ cs (off + len * sz) ys)))
          else bd (apM (len + n) bytes off (len * sz) cs.length) fun _ => x.add nm (.gr ((cs.drop off).take (len * sz) ++ ys)) fun x => K (.gs nm 0 sz (len + n)) x
        | _ => none
      else none
    | .gs m off z len =>
      match sgetS x.s m with
      | some (.gr cs) =>
        bif Nat.beq n 0 then K (.gs m off z len) x
        else bif Nat.beq z sz && Nat.beq off 0 then
          bd (apG plain (len * sz) cs.length (len + n) bytes) fun _ => K (.gs m 0 sz (len + n)) ⟨tkillS m x.t, ssetS (skillS m x.s) m (.gr (cs ++ ys))⟩
        else none
      | _ => none
    | _ => none

def copyK (sz : Nat) (a b : SD) (x : SS) (K : SD → SS → Option ρ) : Option ρ :=
  rowsK sz b x fun ys n plain =>
    match a with
    | .fz .nils => K (.int .i64 0) x
    | .ms nm off z len _ => bif Nat.beq z sz then
        match sgetS x.s nm with
        | some b => bd (apG plain 0 0 0 0) fun _ => stDK b off (ys.take (min n len * sz)).length (ys.take (min n len * sz)) fun b => K (.int .i64 (min n len : Nat)) (x.set nm b)
        | none => none
      else none
    | .gs nm off z len => bif Nat.beq z sz then
        match sgetS x.s nm with
        | some b => bd (apG plain 0 0 0 0) fun _ => stDK b off (ys.take (min n len * sz)).length (ys.take (min n len * sz)) fun b => K (.int .i64 (min n len : Nat)) (x.set nm b)
        | none => none
      else none
    | _ => none

/-- High and most, low being none. -/
def hmK (top len : Nat) (h m : Option D) (K : Nat → Nat → Option ρ) : Option ρ :=
  match m with
  | none => bd (bndO top len h) fun h => K h top
  | some m => bd (bndD top m) fun m => bd (bndO m len h) fun h => K h m

def slVK (sz : Nat) (a : SD) (l h m : Option D) (K : SD → Option ρ) : Option ρ :=
  match a with
  | .fz d => bd (slVF sz d l h m) fun d => K (.fz d)
  | .ms nm off z len c => bif Nat.beq z sz then
      match l with
      | none => hmK c len h m fun h m => K (.ms nm off z h m)
      | some l => bd (bnd3 c len (some l) h m) fun p => K (.ms nm (bif Nat.beq p.2.2 p.1 then off else off + p.1 * sz) z (p.2.1 - p.1) (p.2.2 - p.1))
    else none
  | .gs nm off z len =>
    match m with
    | none => bif Nat.beq z sz then
        match l with
        | none => hmK len len h none fun h _ => K (.gs nm off z h)
        | some l => bd (bnd3 len len (some l) h none) fun p =>
          bif Nat.beq p.1 0 then K (.gs nm off z p.2.1) else bif Nat.blt p.1 p.2.1 then K (.gs nm (off + p.1 * sz) z (p.2.1 - p.1)) else K (.fz (.sl false 0 []))
      else none
    | some m => bif Nat.beq z sz then bd (bndD len m) fun m => bd (bnd3 m len l h none) fun p => bif Nat.blt 0 len then K (.ms nm (bif Nat.beq m p.1 then off else off + p.1 * sz) z (p.2.1 - p.1) (m - p.1)) else none else none
  | _ => none

def slAK (n sz : Nat) (a : SD) (x : SS) (l h m : Option D) (K : SD → Option ρ) : Option ρ :=
  match a with
  | .ptr nm off =>
    match (match sgetS x.s nm with
      | some (.fix cs) => some cs.length
      | some (.fo cs) => some cs.length
      | _ => none) with
    | some ln =>
      match l with
      | none => hmK n n h m fun h m => bd (inR off (m * sz) ln) fun _ => K (.ms nm off sz h m)
      | some l => bd (bnd3 n n (some l) h m) fun p => bd (inR off (p.2.2 * sz) ln) fun _ => K (.ms nm (bif Nat.beq p.2.2 p.1 then off else off + p.1 * sz) sz (p.2.1 - p.1) (p.2.2 - p.1))
    | none => none
  | .ip cs off => bd (bnd3 n n l h m) fun p => bd (inR off (p.2.1 * sz) cs.length) fun _ => K (.fz (.sl (Nat.beq p.2.2 p.2.1) (p.2.1 - p.1) ((cs.drop (off + p.1 * sz)).take ((p.2.1 - p.1) * sz))))
  | _ => none

def lenK (st : Bool) (a : SD) (K : SD → Option ρ) : Option ρ :=
  match st, a with
  | true, .str s => K (.int .i64 s.length)
  | false, .fz d => bd (lenD false d) fun n => K (.int .i64 n)
  | false, .ms _ _ _ n _ => K (.int .i64 n)
  | false, .gs _ _ _ n => K (.int .i64 n)
  | _, _ => none

def capF : D → Option Nat
  | .nils => some 0
  | .sl true n _ => some n
  | _ => none

def mmZ (mx : Bool) (n m : Int) : Int := bif mx then (if m > n then m else n) else (if m < n then m else n)

/-- An operation, but for calls. -/
def opS (G : List (Nat × List D)) (o : AOp) (x : SS) (K : SD → SS → Option ρ) : Option ρ :=
  match o with
  | .mv a => K (a.es G x.t) x
  | .pick c a b => match c.es G x.t with
    | .bool r => bif r then K (a.es G x.t) x else K (b.es G x.t) x
    | _ => none
  | .new nm a => newK nm (a.es G x.t) x K
  | .ld sz a => ldK sz (a.es G x.t) x fun d => K d x
  | .st n a v => stK n (a.es G x.t) (v.es G x.t) x fun x => K .un x
  | .fa o a => match a.es G x.t with
    | .ptr nm off => K (.ptr nm (off + o)) x
    | .pts nm off => K (.pts nm (off + o)) x
    | .ip cs off => K (.ip cs (off + o)) x
    | .fz d => bd (ptF d) fun p => K (.ip p.1 (p.2 + o)) x
    | _ => none
  | .iaA n sz a i => iaAK n sz (a.es G x.t) (i.es G x.t) i.isC fun d => K d x
  | .iaS sz a i => iaSK sz (a.es G x.t) (i.es G x.t) i.isC fun d => K d x
  | .ixA n sz ag a i => ixAK n sz ag (a.es G x.t) (i.es G x.t) i.isC fun d => K d x
  | .ixS a i => match a.es G x.t with
    | .str s => bd (ixStr s (i.es G x.t).cv) fun n => K (.int .u8 n) x
    | _ => none
  | .fld off sz a => match a.es G x.t with
    | .agg cs => bd (takeS cs off sz) fun d => K d x
    | .fa d => bd (fldF off sz d) fun d => K (.fa d) x
    | _ => none
  | .ext i a => match a.es G x.t with
    | .tup cs => bd (cs[i]?) fun d => K d x
    | .fa d => bd (extF i d) fun d => K (.fa d) x
    | _ => none
  | .bin op a b => binK op (a.es G x.t) (b.es G x.t) fun d => K d x
  | .cmp neg k a b => cmpK' neg k (a.es G x.t) (b.es G x.t) fun d => K d x
  | .un op a => unK op (a.es G x.t) fun d => K d x
  | .bld cells ps => bd (placeS (ofDs cells) (partsS G x.t ps)) fun cs => K (.agg cs) x
  | .bsl nm len sz cells ps => bd (placeS (ofDs cells) (partsS G x.t ps)) fun cs => x.add nm (.fix cs) fun x => K (.ms nm 0 sz len len) x
  | .mks nm sz bytes zero l c => match l.es G x.t, c.es G x.t with
    | .int _ l, .int _ c => bd (mkN bytes l c) fun p => x.add nm (.fo (rep p.2 zero)) fun x => K (.ms nm 0 sz p.1 p.2) x
    | _, _ => none
  | .slS a l h => match a.es G x.t with
    | .str s => bd (slStr s (optS G x.t l) (optS G x.t h)) fun s => K (.str s) x
    | _ => none
  | .slV sz a l h m => slVK sz (a.es G x.t) (optS G x.t l) (optS G x.t h) (optS G x.t m) fun d => K d x
  | .slA n sz a l h m => slAK n sz (a.es G x.t) x (optS G x.t l) (optS G x.t h) (optS G x.t m) fun d => K d x
  | .len st a => lenK st (a.es G x.t) fun d => K d x
  | .cap a => match a.es G x.t with
    | .fz d => bd (capF d) fun n => K (.int .i64 n) x
    | .ms _ _ _ _ c => K (.int .i64 c) x
    | _ => none
  | .app nm sz bytes a b => appK nm sz bytes (a.es G x.t) (b.es G x.t) x K
  | .copy sz a b => copyK sz (a.es G x.t) (b.es G x.t) x K
  | .cvI k a => match a.es G x.t with
    | .int _ n => K (.int k (wrapD k n)) x
    | _ => none
  | .cvN a => match a.es G x.t with
    | .int _ n => K (.str (encZ n)) x
    | .str s => K (.str s) x
    | _ => none
  | .cvB nm a => match a.es G x.t with
    | .str s => x.add nm (.gr (bytesOf s)) fun x => K (.gs nm 0 1 s.length) x
    | _ => none
  | .cvS a => match a.es G x.t with
    | .str _ => none
    | .fz d => bd (isSl d) fun _ => rowsK 1 (.fz d) x fun cs _ _ => bd (byteS cs) fun s => K (.str s) x
    | a => rowsK 1 a x fun cs _ _ => bd (byteS cs) fun s => K (.str s) x
  | .mkif t a => K (.iface t (a.es G x.t)) x
  | .mkfn f fs cs => K (.fn f (fs.map (·.es G x.t)) (cs.map (·.es G x.t))) x
  | .nilc a => match a.es G x.t with
    | .ptr nm off => K (.ptr nm off) x
    | .pts nm off => K (.pts nm off) x
    | .ip cs off => K (.ip cs off) x
    | .fn (.func f) a b => K (.fn (.func f) a b) x
    | .fz d => bd (ptF d) fun p => K (.ip p.1 p.2) x
    | _ => none
  | .rng nm a => match a.es G x.t with
    | .str s => x.add nm (.it s 0) fun x => K (.it nm) x
    | _ => none
  | .next a => match a.es G x.t with
    | .it nm => match sgetS x.s nm with
      | some (.it s pos) =>
        bif Nat.blt pos s.length then K (.tup [.bool true, .int .i64 pos, .int .i32 (decR s pos)]) (x.set nm (.it s (pos + decW s pos)))
        else K (.tup [.bool false]) x
      | _ => none
    | _ => none
  | .mm mx a b => match a.es G x.t, b.es G x.t with
    | .int k n, .int _ m => K (.int k (mmZ mx n m)) x
    | _, _ => none
  | .call _ _ _ => none
  | .callv _ _ _ => none

def listK (f : SD → (D → Option ρ) → Option ρ) : List SD → (List D → Option ρ) → Option ρ
  | [], K => K []
  | d :: r, K => f d fun d => listK f r fun ds => K (d :: ds)

/-- Data by which nothing of our own is reached. -/
def frK : Nat → List (Nat × SB) → SD → (D → Option ρ) → Option ρ
  | 0, _, d, K => bif d.pure then K d.cv else none
  | n + 1, s, d, K => bif d.pure then K d.cv else
    match d with
    | .agg cs => listK (frK n s) cs fun cs => K (.agg cs)
    | .tup cs => listK (frK n s) cs fun cs => K (.tup cs)
    | .iface t d => frK n s d fun d => K (.iface t d)
    | .fn f a b => listK (frK n s) a fun a => listK (frK n s) b fun b => K (.fn f a b)
    | .ms nm off sz len cap =>
      match sgetS s nm with
      | some (.fix cs) => bif SD.pures cs then bd (frSl (Nat.beq cap len) off sz len (SD.cvs cs)) K
        else bif Nat.ble (off + len * sz) cs.length then listK (frK n s) ((cs.drop off).take (len * sz)) fun cs => K (.sl (Nat.beq cap len) len cs) else none
      | some (.fo cs) => bd (frSl (Nat.beq cap len) off sz len cs) K
      | _ => none
    | .gs nm off sz len =>
      match sgetS s nm with
      | some (.gr cs) => bd (frSl false off sz len cs) K
      | _ => none
    | .ptr nm off =>
      match sgetS s nm with
      | some (.fix cs) => listK (frK n s) cs fun cs => K (.iptr cs off)
      | some (.fo cs) => K (.iptr cs off)
      | _ => none
    | .pts nm off =>
      match sgetS s nm with
      | some (.fix cs) => listK (frK n s) cs fun cs => K (.iptr cs off)
      | some (.fo cs) => K (.iptr cs off)
      | _ => none
    | _ => none

def frNS : Nat → List (Nat × SB) → SD → List Nat
  | 0, _, _ => []
  | n + 1, s, d => bif d.pure then [] else
    match d with
    | .agg cs => cs.flatMap (frNS n s)
    | .tup cs => cs.flatMap (frNS n s)
    | .iface _ d => frNS n s d
    | .fn _ a b => a.flatMap (frNS n s) ++ b.flatMap (frNS n s)
    | .ms nm _ _ _ _ => nm :: (match sgetS s nm with
      | some (.fix cs) => cs.flatMap (frNS n s)
      | _ => [])
    | .gs nm _ _ _ => nm :: (match sgetS s nm with
      | some (.fix cs) => cs.flatMap (frNS n s)
      | _ => [])
    | .ptr nm _ => nm :: (match sgetS s nm with
      | some (.fix cs) => cs.flatMap (frNS n s)
      | _ => [])
    | .pts nm _ => nm :: (match sgetS s nm with
      | some (.fix cs) => cs.flatMap (frNS n s)
      | _ => [])
    | _ => []

/-- A call, with its result by the shape of its type. -/
def callS (cl : CL) (z : Bool) (sh : Sh) (f : Nat) (ds : List SD) (x : SS) (K : SD → SS → Option ρ) : Option ρ :=
  listK (frK 20 x.s) ds fun as => bd (cl f as) fun d =>
    bif z then bd (sh.gd d) fun v => K (sh.pt v) (SS.purges (ds.flatMap (frNS 20 x.s)) x)
    else bif SD.pures ds || sh.flat then bd (sh.gd d) fun v => K (sh.pt v) x else none

/-- A call of a function value that is data. -/
def callF (cl : CL) (z : Bool) (sh : Sh) (f : D) (ds : List SD) (x : SS) (K : SD → SS → Option ρ) : Option ρ :=
  bd (fnF f) fun p => listK (frK 20 x.s) ds fun as => bd (cl p.1 (p.2.1 ++ as ++ p.2.2)) fun d =>
    bif z then bd (sh.gd d) fun v => K (sh.pt v) (SS.purges (ds.flatMap (frNS 20 x.s)) x)
    else bif SD.pures ds || sh.flat then bd (sh.gd d) fun v => K (sh.pt v) x else none

structure HOper where
  o : AOper
  sh : Sh
  deriving Inhabited

def opH (cl : CL) (G : List (Nat × List D)) (h : HOper) (x : SS) (K : SS → Option ρ) : Option ρ :=
  bif h.o.op.cok then
    match h.o.op with
    | .call z f args => callS cl z h.sh f (args.map (·.es G x.t)) x fun d x => K (x.put h.o.dst d)
    | .callv z c args => match c.es G x.t with
      | .fn (.func f) fs cs => callS cl z h.sh f (fs ++ args.map (·.es G x.t) ++ cs) x fun d x => K (x.put h.o.dst d)
      | .fz d => callF cl z h.sh d (args.map (·.es G x.t)) x fun d x => K (x.put h.o.dst d)
      | _ => none
    | op => opS G op x fun d x => castK h.sh d fun d => K (x.put h.o.dst d)
  else none

def stepS (cl : CL) (G : List (Nat × List D)) (h : HOper) (x : SS) (K : SS → Option ρ) : Option ρ :=
  match h.o.guard with
  | none => opH cl G h x K
  | some (g, want) => match tgetS x.t g with
    | .bool b => bif b then (bif want then opH cl G h ⟨tsetS x.t g (.bool true), x.s⟩ K else K (SS.put ⟨tsetS x.t g (.bool true), x.s⟩ h.o.dst (.tup [])))
      else (bif want then K (SS.put ⟨tsetS x.t g (.bool false), x.s⟩ h.o.dst (.tup [])) else opH cl G h ⟨tsetS x.t g (.bool false), x.s⟩ K)
    | .tup [] => K (x.put h.o.dst (.tup []))
    | _ => none

def opsS (cl : CL) (G : List (Nat × List D)) : List HOper → SS → (SS → Option ρ) → Option ρ
  | [], x, K => K x
  | o :: r, x, K => stepS cl G o x fun y => opsS cl G r y K

end

end Iv
/- Regions with open orders, code, functions: what they come to on values with open places; and what is put in for this: live temporaries, shapes. Conditions: none. -/
namespace Iv
open Go

def SD.nm1 : SD → List Nat
  | .ms n _ _ _ _ => [n]
  | .gs n _ _ _ => [n]
  | .ptr n _ => [n]
  | .pts n _ => [n]
  | .it n => [n]
  | _ => []

def AOp.readsS (G : List (Nat × List D)) (x : SS) : AOp → List Nat
  | .ld _ a => (a.es G x.t).nm1
  | .st _ a _ => (a.es G x.t).nm1
  | .new n _ => [n]
  | .bsl n _ _ _ _ => [n]
  | .mks n _ _ _ _ _ => [n]
  | .slA _ _ a _ _ _ => (a.es G x.t).nm1
  | .app n _ _ a b => n :: ((a.es G x.t).nm1 ++ (b.es G x.t).nm1)
  | .copy _ a b => (a.es G x.t).nm1 ++ (b.es G x.t).nm1
  | .cvB n _ => [n]
  | .cvS a => (a.es G x.t).nm1
  | .rng n _ => [n]
  | .next a => (a.es G x.t).nm1
  | .call _ _ args => (args.map (·.es G x.t)).flatMap (frNS 20 x.s)
  | .callv _ c args => match c.es G x.t with
    | .fn _ fs cs => (fs ++ args.map (·.es G x.t) ++ cs).flatMap (frNS 20 x.s)
    | _ => (args.map (·.es G x.t)).flatMap (frNS 20 x.s)
  | _ => []
def AOp.writesS (G : List (Nat × List D)) (x : SS) : AOp → List Nat
  | .st _ a _ => (a.es G x.t).nm1
  | .new n _ => [n]
  | .bsl n _ _ _ _ => [n]
  | .mks n _ _ _ _ _ => [n]
  | .app n _ _ a _ => n :: (a.es G x.t).nm1
  | .copy _ a _ => (a.es G x.t).nm1
  | .cvB n _ => [n]
  | .rng n _ => [n]
  | .next a => (a.es G x.t).nm1
  | .call true _ args => (args.map (·.es G x.t)).flatMap (frNS 20 x.s)
  | .callv true c args => match c.es G x.t with
    | .fn _ fs cs => (fs ++ args.map (·.es G x.t) ++ cs).flatMap (frNS 20 x.s)
    | _ => (args.map (·.es G x.t)).flatMap (frNS 20 x.s)
  | _ => []
def AOp.movesS (G : List (Nat × List D)) (x : SS) : AOp → List Nat
  | .app _ _ _ a _ => match a.es G x.t with
    | .gs m _ _ _ => [m]
    | _ => []
  | .call true _ args => (args.map (·.es G x.t)).flatMap (frNS 20 x.s)
  | .callv true c args => match c.es G x.t with
    | .fn _ fs cs => (fs ++ args.map (·.es G x.t) ++ cs).flatMap (frNS 20 x.s)
    | _ => (args.map (·.es G x.t)).flatMap (frNS 20 x.s)
  | _ => []

def SB.hasRef (m : Nat) : SB → Bool
  | .fix cs => SD.hasRefs m cs
  | _ => false

def srefS (m : Nat) (s : List (Nat × SB)) (n : Nat) : Bool :=
  match sgetS s n with
  | some b => b.hasRef m
  | none => false

/-- Whether an operation is done, as far as that is known: a guard that is a variable: it may be. -/
def AOper.onS (o : AOper) (x : SS) : Bool :=
  match o.guard with
  | none => true
  | some (g, _) => match tgetS x.t g with
    | .tup _ => false
    | _ => true

def AOper.fpS (G : List (Nat × List D)) (o : AOper) (x x' : SS) : FP :=
  bif o.onS x then
    { tm := o.tmps, rd := o.op.readsS G x, wr := o.op.writesS G x, kl := o.op.movesS G x,
      has := fun m => o.tmps.any (fun t => SD.hasRef m (tgetS x.t t)) || (o.op.readsS G x).any (srefS m x.s) || (o.op.writesS G x).any (srefS m x'.s) ||
        (match o.dst with | some d => SD.hasRef m (tgetS x'.t d) | none => false),
      th := fun t => (o.op.movesS G x).any fun m => SD.hasRef m (tgetS x.t t),
      bh := fun n => (o.op.movesS G x).any fun m => srefS m x.s n }
  else { tm := o.tmps, rd := [], wr := [], kl := [], has := fun m => o.tmps.any (fun t => SD.hasRef m (tgetS x.t t)), th := fun _ => false, bh := fun _ => false }

section
variable {ρ : Type}

def opsDS (cl : CL) (G : List (Nat × List D)) : List HOper → SS → List FP → (SS → List FP → Option ρ) → Option ρ
  | [], x, l, K => K x l.reverse
  | o :: r, x, l, K => stepS cl G o x fun y => opsDS cl G r y (o.o.fpS G x y :: l) K

end

/-- Code with what is put in. 'cut': the ways through a part come together behind it. -/
inductive HC where
  | skip
  | reg (draw : Option (List (Nat × Nat))) (kl : List Nat) (ops : List HOper) (live : List Nat)
  | seq (a b : HC)
  | cond (c : Arg) (a b : HC)
  | block (id : Nat) (a : HC)
  | loop (lt : List Nat) (ad : List (Nat × Nat × Nat)) (a : HC)
  | exit (id : Nat)
  | scope (a : HC)
  | ret
  | cut (lt : List Nat) (tys : List (Nat × Sh)) (a : HC)
  deriving Inhabited

def HC.ac : HC → AC
  | .skip => .skip
  | .reg d k ops l => .reg d k (ops.map (·.o)) (some l)
  | .seq a b => .seq a.ac b.ac
  | .cond c a b => .cond c a.ac b.ac
  | .block i a => .block i a.ac
  | .loop _ _ a => .loop [] [] [] a.ac
  | .exit i => .exit i
  | .scope a => .scope a.ac
  | .ret => .ret
  | .cut _ _ a => a.ac

def den (lp : Lp) (cl : CL) (G : List (Nat × List D)) : HC → {ρ : Type} → SS → (AX → SS → Option ρ) → Option ρ
  | .skip, _, x, k => k .normal x
  | .reg none kl ops live, _, x, k => opsS cl G ops (SS.drops kl x) fun y => k .normal ⟨restrictS live y.t, y.s⟩
  | .reg (some dr) kl ops live, _, x, k => opsDS cl G ops (SS.drops kl x) [] fun y l => bif indep dr l then k .normal ⟨restrictS live y.t, y.s⟩ else none
  | .seq a b, _, x, k => den lp cl G a x fun e y => match e with
    | .normal => den lp cl G b y k
    | e => k e y
  | .cond c a b, _, x, k => bif c.cok then
    match c.es G x.t with
    | .bool r => bif r then den lp cl G a x k else den lp cl G b x k
    | _ => none
    else none
  | .block id a, _, x, k => den lp cl G a x fun e y => match e with
    | .exit i => bif Nat.beq i id then k .normal y else k (.exit i) y
    | e => k e y
  | .loop lt ad a, _, x, k =>
    XSh.getK (shOfX (normS lt ad x)) (normS lt ad x) fun v =>
      lp.run (fun v => den lp cl G a (XSh.pt (shOfX (normS lt ad x)) v) fun e y => match e with
        | .normal => XSh.getK (shOfX (normS lt ad x)) (normE (shOfX (normS lt ad x)) lt ad y) fun w => some (.inl w)
        | e => rt (k e y)) v
  | .exit id, _, x, k => k (.exit id) x
  | .scope a, _, x, k => den lp cl G a x k
  | .ret, _, x, k => k .ret x
  | .cut lt tys a, _, x, k =>
    bj (den lp cl G a x fun e y => match e with
      | .normal => XSh.getK (cutT lt tys x.t, sshOf x.s) (normE (cutT lt tys x.t, sshOf x.s) lt [] y) fun w => some (.inl w)
      | e => rt (k e y)) fun w => k .normal (XSh.pt (cutT lt tys x.t, sshOf x.s) w)

structure HF where
  np : Nat
  sh : List Sh
  body : HC
  res : List RV
  deriving Inhabited

def HF.af (H : HF) : AF := { np := H.np, body := H.body.ac, res := H.res }

section
variable {ρ : Type}

def RV.getK (x : SS) (r : RV) (K : SD → Option ρ) : Option ρ :=
  match r with
  | .tmp t => K (tgetS x.t t)
  | .cell t sz => match tgetS x.t t with
    | .ptr nm off => ldK sz (.ptr nm off) x K
    | _ => none

def resK (x : SS) : List RV → (List SD → Option ρ) → Option ρ
  | [], K => K []
  | r :: l, K => r.getK x fun d => resK x l fun ds => K (d :: ds)

def retS : List SD → SD
  | [d] => d
  | ds => .tup ds

def castsK : List Sh → List D → (List SD → Option ρ) → Option ρ
  | [], [], K => K []
  | s :: r, d :: ds, K => bd (s.gd d) fun v => castsK r ds fun l => K (s.pt v :: l)
  | _, _, _ => none
end

def argS : Nat → List SD → List (Nat × SD)
  | _, [] => []
  | n, d :: r => (n, d) :: argS (n + 1) r

def runB (lp : Lp) (cl : CL) (G : List (Nat × List D)) (H : HF) (l : List SD) : Option D :=
  den lp cl G H.body ⟨argS 0 l, []⟩ fun e x => match e with
    | .exit _ => none
    | _ => resK x H.res fun ds => frK 20 x.s (retS ds) some

/- What is put in. -/

mutual
def shV : D → Sh
  | .int k _ => .int k
  | .bool _ => .bool
  | .str _ => .str
  | .agg cs => bif Nat.ble cs.length 40 then .agg (shVs cs) else .any
  | _ => .fz
def shVs : List D → List Sh
  | [] => []
  | d :: r => shV d :: shVs r
end

def shOf (P : Program) (t : TypeId) : Sh :=
  match P.underlying t with
  | some (.tuple es) => .tup (es.toList.map fun e => match zeroOf P e with
    | some z => shV z
    | none => .any)
  | _ => match zeroOf P t with
    | some z => shV z
    | none => .any

def mask (l : List Nat) : Nat := l.foldl (fun m t => m ||| 2 ^ t) 0
def bits (N m : Nat) : List Nat := (List.range N).filter fun i => m.testBit i
def clr (m d : Nat) : Nat := bif m.testBit d then m - 2 ^ d else m

def liveOps (ops : List AOper) (L : Nat) : Nat :=
  ops.foldr (fun o L => (match o.dst with | some d => clr L d | none => L) ||| mask o.tmps) L

def liveIn (ret : Nat) : List (Nat × Nat) → AC → Nat → Nat
  | _, .skip, L => L
  | _, .reg _ _ ops _, L => liveOps ops L
  | ex, .seq a b, L => liveIn ret ex a (liveIn ret ex b L)
  | ex, .cond c a b, L => mask c.tmps ||| liveIn ret ex a L ||| liveIn ret ex b L
  | ex, .block i a, L => liveIn ret ((i, L) :: ex) a L
  | ex, .loop _ _ _ a, _ => (fun X => (fun Y => X ||| Y ||| liveIn ret ex a (X ||| Y)) (liveIn ret ex a X)) (liveIn ret ex a 0)
  | ex, .exit i, _ => match ex.find? (fun p => Nat.beq p.1 i) with | some p => p.2 | none => 0
  | ex, .scope a, L => liveIn ret ex a L
  | _, .ret, _ => ret

/-- How many ways through: to the end; and to an exit. -/
def ways : AC → Nat
  | .skip => 1
  | .reg _ _ ops _ => (ops.foldl (fun (p : Nat × Option Nat) o => match o.guard with
      | some (g, _) => bif p.2 == some g then p else (p.1 + 1, some g)
      | none => p) (1, none)).1
  | .seq a b => ways a * ways b
  | .cond _ a b => ways a + ways b
  | .block i a => ways a + exits i a
  | .loop _ _ _ _ => 0
  | .exit _ => 0
  | .scope a => ways a
  | .ret => 0
where
  exits (i : Nat) : AC → Nat
  | .seq a b => exits i a + exits i b
  | .cond _ a b => exits i a + exits i b
  | .block _ a => exits i a
  | .loop _ _ _ a => exits i a
  | .exit j => bif Nat.beq i j then 1 else 0
  | .scope a => exits i a
  | _ => 0

def acSize : AC → Nat
  | .reg _ _ ops _ => ops.length
  | .seq a b => acSize a + acSize b
  | .cond _ a b => 1 + acSize a + acSize b
  | .block _ a => acSize a
  | .loop _ _ _ a => 10 + acSize a
  | .scope a => acSize a
  | _ => 1

def appsReg (ops : List AOper) : List (Nat × Nat) :=
  ops.flatMap fun o => match o.op, o.dst with
    | .app _ s _ (.t a) _, some r =>
      let defs := ops.filterMap fun p => match p.op, p.dst with | .mv (.t v), some d => bif Nat.beq d a then some v else none | _, _ => none
      let uses := ops.filterMap fun p => match p.op, p.dst with | .mv (.t x), some d => bif Nat.beq x r then some d else none | _, _ => none
      (defs.filter fun v => memN v uses).map fun v => (v, s)
    | _, _ => []
def appsAC : AC → List (Nat × Nat)
  | .reg _ _ ops _ => appsReg ops
  | .seq a b => appsAC a ++ appsAC b
  | .cond _ a b => appsAC a ++ appsAC b
  | .block _ a => appsAC a
  | .loop _ _ _ a => appsAC a
  | .scope a => appsAC a
  | _ => []

structure HEnv where
  N : Nat
  ret : Nat
  ty : Nat → Sh
  /-- the result of a function may hold places in memory -/
  z : Nat → Bool

def hop (e : HEnv) (o : AOper) : HOper :=
  let sh := match o.dst with | some d => e.ty d | none => .any
  { o := { o with op := match o.op with
      | .call _ f l => .call (e.z f) f l
      | .callv _ x l => .callv (!sh.flat) x l
      | op => op }, sh := sh }

def dedup : List (Nat × Nat) → List (Nat × Nat)
  | [] => []
  | p :: r => bif r.any (fun q => Nat.beq p.1 q.1) then dedup r else p :: dedup r

def cutSize : Nat := 8

def hintC (e : HEnv) : List (Nat × Nat) → AC → Nat → HC
  | _, .skip, _ => .skip
  | _, .reg d k ops _, L => .reg d k (ops.map (hop e)) (bits e.N L)
  | ex, .seq a b, L =>
    let lb := liveIn e.ret ex b L
    bif Nat.blt 1 (ways a) && Nat.blt cutSize (acSize b) then
      .seq (.cut (bits e.N lb) ((bits e.N lb).map fun t => (t, e.ty t)) (hintC e ex a lb)) (hintC e ex b L)
    else .seq (hintC e ex a lb) (hintC e ex b L)
  | ex, .cond c a b, L => .cond c (hintC e ex a L) (hintC e ex b L)
  | ex, .block i a, L => .block i (hintC e ((i, L) :: ex) a L)
  | ex, .loop _ _ _ a, _ =>
    let X := liveIn e.ret ex (.loop [] [] [] a) 0
    .loop (bits e.N X) ((dedup (appsAC a)).filterMap fun p => bif X.testBit p.1 then some (p.1, 900000 + p.1, p.2) else none) (hintC e ex a X)
  | _, .exit i, _ => .exit i
  | ex, .scope a, L => .scope (hintC e ex a L)
  | _, .ret, _ => .ret

/-- The types of temporaries. -/
def tysOf : Code → List (Nat × TypeId)
  | .region _ ops _ => ops.toList.filterMap fun o => match o.dst with | some d => some (d, o.type) | none => none
  | .seq a b => tysOf a ++ tysOf b
  | .cond _ a b => tysOf a ++ tysOf b
  | .block _ a => tysOf a
  | .loop a => tysOf a
  | .scope a => tysOf a
  | _ => []

def numb : Nat → List TypeId → List (Nat × TypeId)
  | _, [] => []
  | n, t :: r => (n, t) :: numb (n + 1) r

/-- The shape of a function's result. -/
def resSh (P : Program) (f : Nat) : Sh :=
  match P.funcs[f]? with
  | some fn => match fn.resultTypes.toList with
    | [t] => shOf P t
    | ts => .tup (ts.map (shOf P))
  | none => .any

def hintF (P : Program) (fn : Func) : Option HF := do
  let A ← compF P 0 fn
  let c ← fn.body
  let tys := numb 0 fn.params.toList ++ tysOf c
  let ty := fun t => match tys.find? (fun p => Nat.beq p.1 t) with
    | some p => shOf P p.2
    | none => .any
  let ret := mask (A.res.map fun r => match r with | .tmp t => t | .cell t _ => t)
  let e : HEnv := { N := fn.ntmps, ret := ret, ty := ty, z := fun f => !(resSh P f).flat }
  some { np := A.np, sh := (List.range A.np).map (fun t => bif Nat.blt t fn.params.size then ty t else .fz), body := hintC e [] A.body ret, res := A.res }

def hOf (P : Program) (f : Nat) : Option HF :=
  match P.funcs[f]? with
  | some fn => bif fn.name == "runtime.NumGoroutine" then none else hintF P fn
  | none => none

/-- What a function's text comes to. -/
def runS (lp : Lp) (P : Program) (G : List (Nat × List D)) (cl : CL) (f : Nat) (l : List SD) : Option D :=
  match hOf P f with
  | some H => runB lp cl G H l
  | none => none

end Iv
