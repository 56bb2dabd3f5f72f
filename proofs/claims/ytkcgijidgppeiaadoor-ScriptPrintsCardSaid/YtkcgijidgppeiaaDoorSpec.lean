/- What the script's text says, as plain functions on lists of bytes. No program in sight. -/
import Derived.Lib.ParseIntB
import Derived.Lib.ItoaNum
import Derived.Lib.Bytealg
import Derived.Lib.Join
import Derived.Lib.Split
namespace Go.Proofs.YtkcgijidgppeiaaDoor
namespace Scr

abbrev Bs := List UInt8
abbrev Ws := List ByteArray

structure OpS where
  kind : Int
  path : Bs
  to : Bs
  handle : Int
  pos : Int
  n : Int
  writes : Bool
  b : Bs

structure Ev where
  kind : Int
  node : Int
  fate : Int
  n : Int
  op : OpS
  b : Bs

structure Cfg where
  servers : Int
  clients : Int
  sectors : Int
  journal : Int
  tries : Int

def OpS.zero : OpS := ⟨0, [], [], 0, 0, 0, false, []⟩
def Ev.zero : Ev := ⟨0, 0, 0, 0, OpS.zero, []⟩
def Cfg.zero : Cfg := ⟨0, 0, 0, 0, 0⟩

def word : Ws → Option (ByteArray × Ws)
  | [] => none
  | w :: r => some (w, r)

def numW (w : Bs) : Option Int :=
  match Lib.parseIntB 64 w with
  | .ok v => if Lib.itoa v = w then some v else none
  | _ => none

def num : Ws → Option (Int × Ws)
  | [] => none
  | w :: r => match numW w.data.toList with
    | some v => some (v, r)
    | none => none

def flag (ws : Ws) : Option (Bool × Ws) :=
  match num ws with
  | some (n, r) => if n = 0 then some (false, r) else if n = 1 then some (true, r) else none
  | none => none

def digs : Bs := [48, 49, 50, 51, 52, 53, 54, 55, 56, 57, 97, 98, 99, 100, 101, 102]

def unhex : Bs → Option Bs
  | [] => some []
  | [_] => none
  | a :: b :: r =>
    if Lib.indexByte digs a < 0 ∨ Lib.indexByte digs b < 0 then none else
    match unhex r with
    | some l => some (UInt8.ofNat (16 * (Lib.indexByte digs a).toNat + (Lib.indexByte digs b).toNat) :: l)
    | none => none

def bytesW (w : Bs) : Option Bs := if w = [45] then some [] else if w = [] then none else unhex w

def bytes : Ws → Option (Bs × Ws)
  | [] => none
  | w :: r => match bytesW w.data.toList with
    | some v => some (v, r)
    | none => none

def config (ws : Ws) : Option (Cfg × Ws) :=
  match word ws with
  | none => none
  | some (w, ws) => if w.data.toList ≠ [119, 111, 114, 108, 100] then none else
    (num ws).bind fun (a, ws) => (num ws).bind fun (b, ws) => (num ws).bind fun (c, ws) => (num ws).bind fun (d, ws) => (num ws).bind fun (e, ws) => some (⟨a, b, c, d, e⟩, ws)

def op (ws : Ws) : Option (OpS × Ws) :=
  (num ws).bind fun (k, ws) => (bytes ws).bind fun (p, ws) => (bytes ws).bind fun (t, ws) => (num ws).bind fun (h, ws) => (num ws).bind fun (a, ws) => (num ws).bind fun (n, ws) =>
  (flag ws).bind fun (f, ws) => (bytes ws).bind fun (b, ws) => some (⟨k, p, t, h, a, n, f, b⟩, ws)

def names : List Bs := [[98, 101, 103, 105, 110], [115, 116, 101, 112], [99, 108, 101, 97, 110], [109, 101, 110, 100], [99, 111, 109, 101], [99, 114, 97, 115, 104], [115, 116, 97, 114, 116], [108, 111, 115, 101], [114, 101, 112, 108, 97, 99, 101], [102, 117, 115, 101]]

def name (k : Int) : Bs := if 1 ≤ k ∧ k ≤ 10 then names.getD (k - 1).toNat [] else []

/-- the first kind whose word it is; 11: none. -/
def kindFrom : Nat → Nat → Bs → Nat
  | 0, k, _ => k
  | fuel + 1, k, w => if k ≤ 10 ∧ name k ≠ w then kindFrom fuel (k + 1) w else k

def kindOf (w : Bs) : Nat := kindFrom 10 1 w

def event (ws : Ws) : Option (Ev × Ws) :=
  match word ws with
  | none => none
  | some (w, ws) =>
    let k := kindOf w.data.toList
    let e : Ev := { Ev.zero with kind := k }
    if k = 1 then (num ws).bind fun (a, ws) => (op ws).bind fun (o, ws) => some ({ e with node := a, op := o }, ws)
    else if k = 2 ∨ k = 3 ∨ k = 4 then (num ws).bind fun (a, ws) => (num ws).bind fun (f, ws) => some ({ e with node := a, fate := f }, ws)
    else if k = 5 then (num ws).bind fun (n, ws) => some ({ e with n := n }, ws)
    else if k = 6 then (num ws).bind fun (a, ws) => (bytes ws).bind fun (b, ws) => some ({ e with node := a, b := b }, ws)
    else if k = 7 ∨ k = 8 ∨ k = 9 then (num ws).bind fun (a, ws) => some ({ e with node := a }, ws)
    else if k = 10 then (num ws).bind fun (a, ws) => (num ws).bind fun (n, ws) => some ({ e with node := a, n := n }, ws)
    else none

/-- the pieces between separators. -/
def parts (sep : ByteArray) (s : ByteArray) : List ByteArray := Lib.splitB sep 0 (Lib.countB s sep) s
def space : ByteArray := ⟨#[32]⟩
def newline : ByteArray := ⟨#[10]⟩
/-- what a line adds; none: it is not so. -/
def readLine (i : Int) (c : Cfg) (evs : List Ev) (s : ByteArray) : Option (Cfg × List Ev) :=
  if i = 0 then match config (parts space s) with | some (x, []) => some (x, evs) | _ => none
  else match event (parts space s) with | some (x, []) => some (c, evs ++ [x]) | _ => none
/-- the lines from the i-th on; an error: which line is not so. -/
def readAll : Nat → Cfg → List Ev → List ByteArray → Except Nat (Cfg × List Ev)
  | _, c, evs, [] => .ok (c, evs)
  | i, c, evs, s :: ss => match readLine i c evs s with | some (c', evs') => readAll (i + 1) c' evs' ss | none => .error (i + 1)
def lines (text : ByteArray) : List ByteArray := (parts newline text).take (Lib.countB text newline)
def last (text : ByteArray) : ByteArray := (parts newline text)[Lib.countB text newline]?.getD ⟨#[]⟩
def long (text : ByteArray) : Bool := decide (65536 < (text.size : Int)) || decide (2048 < (Lib.countB text newline : Int)) || (((Lib.countB text newline : Int) == 2048) && !(last text).toList.isEmpty)
/-- what Parse says. -/
def parse (text : ByteArray) : Cfg × List Ev × Int × Int :=
  if long text = true then (Cfg.zero, [], 0, 3)
  else match readAll 0 Cfg.zero [] (lines text) with
    | .error k => (Cfg.zero, [], k, 18)
    | .ok (c, evs) => if Lib.countB text newline = 0 ∨ (last text).toList.isEmpty = false then (Cfg.zero, [], Lib.countB text newline + 1, 18) else (c, evs, 0, 0)
def itoaB (n : Int) : ByteArray := ⟨(Lib.itoa n).toArray⟩
def bitB (x : Bool) : ByteArray := if x then ⟨#[49]⟩ else ⟨#[48]⟩
/-- words as a line. -/
def rowB (ws : List ByteArray) : ByteArray := ⟨(Lib.join (ws.map (·.data.toList)) [32]).toArray⟩ ++ ⟨#[10]⟩
def digit (n : Nat) : UInt8 := digs[n]?.getD 0
def hexL : List UInt8 → List UInt8
  | [] => []
  | x :: r => digit (x.toNat / 16) :: digit (x.toNat % 16) :: hexL r
def hexB (bs : List UInt8) : ByteArray := if bs = [] then ⟨#[45]⟩ else ⟨(hexL bs).toArray⟩
def nameB (k : Int) : ByteArray := ⟨(name k).toArray⟩
/-- the words of an event's line. -/
def saidWs (x : Ev) : List ByteArray :=
  [nameB x.kind] ++ (if x.kind = 5 then [] else [itoaB x.node]) ++
  (if x.kind = 1 then [itoaB x.op.kind, hexB x.op.path, hexB x.op.to, itoaB x.op.handle, itoaB x.op.pos, itoaB x.op.n, bitB x.op.writes, hexB x.op.b]
   else if x.kind = 2 ∨ x.kind = 3 ∨ x.kind = 4 then [itoaB x.fate] else if x.kind = 5 ∨ x.kind = 10 then [itoaB x.n] else if x.kind = 6 then [hexB x.b] else [])
def saidB (x : Ev) : ByteArray := rowB (saidWs x)
/-- the lines of the events, behind what stands already; none: it is too long. -/
def printFrom : ByteArray → List Ev → Option ByteArray
  | out, [] => if 65536 < out.size then none else some out
  | out, x :: r => if 65536 < out.size then none else printFrom (out ++ saidB x) r
def head (c : Cfg) : ByteArray := ⟨#[119, 111, 114, 108, 100, 32]⟩ ++ rowB [itoaB c.servers, itoaB c.clients, itoaB c.sectors, itoaB c.journal, itoaB c.tries]
/-- what Print says. -/
def print (c : Cfg) (evs : List Ev) : ByteArray × Int :=
  if evs.any (fun x => (name x.kind).isEmpty) then (⟨#[]⟩, 1)
  else if 2047 < evs.length then (⟨#[]⟩, 3)
  else match printFrom (head c) evs with
    | some s => (s, 0)
    | none => (⟨#[]⟩, 3)

end Scr
end Go.Proofs.YtkcgijidgppeiaaDoor
